import PyProof.Rows.All
import Wide.All
import OpenK.AllK
import Wide.FinOn
import KE.KStateDown
import HandS.ForMost
import HandS.More
import HandS.WordsExc
import HandS.Defaults
import HandS.Codes
import HandS.Head0
import HandS.Head1
import HandS.Head2
import HandS.HeadEnd
import HandS.HeadHook1
import HandS.HeadHook2
import PySem.Challenge.RW_cardpanel_k71_whole_books_of_panels
import HandS.Deep
import HandS.Star
import HandS.IsInst
import HandS.Style
import HandS.WideBits
import HandS.DictComp
import KE.SortKeyed
import HandS.Strs
import HandS.TupSets
import KE.KFmtOwn
import HandS.OwnEq
import PyProof.InstEq
set_option Elab.async false
set_option linter.all false
set_option maxRecDepth 100000
set_option maxHeartbeats 0
namespace Cp
open PySem PySem.Spec PyProof.Rows L2
/-! the text by places -/
abbrev topS (i : Nat) : Stmt := PySem.Challenge.pw_cardpanel_k71_whole_books_of_panels.main.body.getD i (.Pass ⟨0, 0, 0, 0⟩)
abbrev s_is_name : Stmt := topS 12
abbrev s_are_names : Stmt := topS 13
abbrev s_are_entries : Stmt := topS 14
abbrev s_is_ascending : Stmt := topS 15
abbrev s_is_lot : Stmt := topS 16
abbrev s_is_field : Stmt := topS 17
abbrev s_check_entries : Stmt := topS 18
abbrev s_spots_of : Stmt := topS 21
abbrev s_is_row : Stmt := topS 22
abbrev s_are_rows : Stmt := topS 23
abbrev s_check_panel : Stmt := topS 24
abbrev s_is_line : Stmt := topS 26
abbrev s_copied : Stmt := topS 27
abbrev s_check_book : Stmt := topS 29
abbrev s_check_two : Stmt := topS 30
abbrev s_is_met : Stmt := topS 31
abbrev s_break_of : Stmt := topS 32
abbrev s_first_break : Stmt := topS 33
abbrev s_keeps : Stmt := topS 34
abbrev s_is_part : Stmt := topS 36
abbrev s_least_of : Stmt := topS 37
abbrev s_lots_in : Stmt := topS 38
abbrev s_all_lots : Stmt := topS 39
abbrev s_lots_of : Stmt := topS 40
abbrev s_doubled : Stmt := topS 42
abbrev s_names_in : Stmt := topS 44
abbrev s_mark_of : Stmt := topS 45
abbrev s_meets_all : Stmt := topS 46
abbrev s_is_least_mark : Stmt := topS 47
abbrev s_meeting : Stmt := topS 48
abbrev s_least_meeting : Stmt := topS 49
abbrev s_whole_book : Stmt := topS 51
abbrev s_book_of : Stmt := topS 52
abbrev s_law_purse : Stmt := topS 54
abbrev s_law_mixed : Stmt := topS 55
abbrev s_law_draw : Stmt := topS 56
abbrev s_law_purses : Stmt := topS 57
abbrev s_law_one_of : Stmt := topS 58
abbrev s_law_shuffled : Stmt := topS 59
abbrev s_law_word : Stmt := topS 60
abbrev s_law_names : Stmt := topS 61
abbrev s_law_rows_of : Stmt := topS 62
abbrev s_law_fields : Stmt := topS 63
abbrev s_law_is_part : Stmt := topS 64
abbrev s_law_least : Stmt := topS 65
abbrev s_law_lots : Stmt := topS 66
abbrev s_law_is_within : Stmt := topS 67
abbrev s_law_is_alike : Stmt := topS 68
abbrev s_law_meets : Stmt := topS 69
abbrev s_law_row_keeps : Stmt := topS 70
abbrev s_law_all_rows : Stmt := topS 71
abbrev s_law_some_names : Stmt := topS 72
abbrev s_law_offs : Stmt := topS 73
abbrev s_law_kept_rows : Stmt := topS 74
abbrev s_law_least_offs : Stmt := topS 75
abbrev s_law_own_lines : Stmt := topS 76
abbrev s_law_other_rows : Stmt := topS 77
abbrev s_law_right : Stmt := topS 78
abbrev s_law : Stmt := topS 79
abbrev s_Panel_init : Stmt := inClass (topS 20) 0
abbrev s_Panel_entries : Stmt := inClass (topS 20) 1
abbrev s_Panel_rows : Stmt := inClass (topS 20) 2
abbrev s_Book_init : Stmt := inClass (topS 28) 0
abbrev s_Book_entries : Stmt := inClass (topS 28) 1
abbrev s_Book_lines : Stmt := inClass (topS 28) 2
abbrev s_Book_eq : Stmt := inClass (topS 28) 5
def dfn : List He.DefD := [⟨("is_name", none), "is_name", "is_name", defArgs s_is_name, defBody s_is_name, defScope s_is_name, [], []⟩,
  ⟨("are_names", none), "are_names", "are_names", defArgs s_are_names, defBody s_are_names, defScope s_are_names, [], []⟩,
  ⟨("are_entries", none), "are_entries", "are_entries", defArgs s_are_entries, defBody s_are_entries, defScope s_are_entries, [], []⟩,
  ⟨("is_ascending", none), "is_ascending", "is_ascending", defArgs s_is_ascending, defBody s_is_ascending, defScope s_is_ascending, [], []⟩,
  ⟨("is_lot", none), "is_lot", "is_lot", defArgs s_is_lot, defBody s_is_lot, defScope s_is_lot, [], []⟩,
  ⟨("is_field", none), "is_field", "is_field", defArgs s_is_field, defBody s_is_field, defScope s_is_field, [], []⟩,
  ⟨("check_entries", none), "check_entries", "check_entries", defArgs s_check_entries, defBody s_check_entries, defScope s_check_entries, [], []⟩,
  ⟨("spots_of", none), "spots_of", "spots_of", defArgs s_spots_of, defBody s_spots_of, defScope s_spots_of, [], []⟩,
  ⟨("is_row", none), "is_row", "is_row", defArgs s_is_row, defBody s_is_row, defScope s_is_row, [], []⟩,
  ⟨("are_rows", none), "are_rows", "are_rows", defArgs s_are_rows, defBody s_are_rows, defScope s_are_rows, [], []⟩,
  ⟨("check_panel", none), "check_panel", "check_panel", defArgs s_check_panel, defBody s_check_panel, defScope s_check_panel, [], []⟩,
  ⟨("is_line", none), "is_line", "is_line", defArgs s_is_line, defBody s_is_line, defScope s_is_line, [], []⟩,
  ⟨("copied", none), "copied", "copied", defArgs s_copied, defBody s_copied, defScope s_copied, [], []⟩,
  ⟨("check_book", none), "check_book", "check_book", defArgs s_check_book, defBody s_check_book, defScope s_check_book, [], []⟩,
  ⟨("check_two", none), "check_two", "check_two", defArgs s_check_two, defBody s_check_two, defScope s_check_two, [], []⟩,
  ⟨("is_met", none), "is_met", "is_met", defArgs s_is_met, defBody s_is_met, defScope s_is_met, [], []⟩,
  ⟨("break_of", none), "break_of", "break_of", defArgs s_break_of, defBody s_break_of, defScope s_break_of, [], []⟩,
  ⟨("first_break", none), "first_break", "first_break", defArgs s_first_break, defBody s_first_break, defScope s_first_break, [], []⟩,
  ⟨("keeps", none), "keeps", "keeps", defArgs s_keeps, defBody s_keeps, defScope s_keeps, [], []⟩,
  ⟨("is_part", none), "is_part", "is_part", defArgs s_is_part, defBody s_is_part, defScope s_is_part, [], []⟩,
  ⟨("least_of", none), "least_of", "least_of", defArgs s_least_of, defBody s_least_of, defScope s_least_of, [], []⟩,
  ⟨("lots_in", none), "lots_in", "lots_in", defArgs s_lots_in, defBody s_lots_in, defScope s_lots_in, [], []⟩,
  ⟨("all_lots", none), "all_lots", "all_lots", defArgs s_all_lots, defBody s_all_lots, defScope s_all_lots, [], []⟩,
  ⟨("lots_of", none), "lots_of", "lots_of", defArgs s_lots_of, defBody s_lots_of, defScope s_lots_of, [], []⟩,
  ⟨("doubled", none), "doubled", "doubled", defArgs s_doubled, defBody s_doubled, defScope s_doubled, [], []⟩,
  ⟨("names_in", none), "names_in", "names_in", defArgs s_names_in, defBody s_names_in, defScope s_names_in, [], []⟩,
  ⟨("mark_of", none), "mark_of", "mark_of", defArgs s_mark_of, defBody s_mark_of, defScope s_mark_of, [], []⟩,
  ⟨("meets_all", none), "meets_all", "meets_all", defArgs s_meets_all, defBody s_meets_all, defScope s_meets_all, [], []⟩,
  ⟨("is_least_mark", none), "is_least_mark", "is_least_mark", defArgs s_is_least_mark, defBody s_is_least_mark, defScope s_is_least_mark, [], []⟩,
  ⟨("meeting", none), "meeting", "meeting", defArgs s_meeting, defBody s_meeting, defScope s_meeting, [], []⟩,
  ⟨("least_meeting", none), "least_meeting", "least_meeting", defArgs s_least_meeting, defBody s_least_meeting, defScope s_least_meeting, [], []⟩,
  ⟨("whole_book", none), "whole_book", "whole_book", defArgs s_whole_book, defBody s_whole_book, defScope s_whole_book, [], []⟩,
  ⟨("book_of", none), "book_of", "book_of", defArgs s_book_of, defBody s_book_of, defScope s_book_of, [], []⟩,
  ⟨("_law_purse", none), "_law_purse", "_law_purse", defArgs s_law_purse, defBody s_law_purse, defScope s_law_purse, [], []⟩,
  ⟨("_law_mixed", none), "_law_mixed", "_law_mixed", defArgs s_law_mixed, defBody s_law_mixed, defScope s_law_mixed, [], []⟩,
  ⟨("_law_draw", none), "_law_draw", "_law_draw", defArgs s_law_draw, defBody s_law_draw, defScope s_law_draw, [], []⟩,
  ⟨("_law_purses", none), "_law_purses", "_law_purses", defArgs s_law_purses, defBody s_law_purses, defScope s_law_purses, [], []⟩,
  ⟨("_law_one_of", none), "_law_one_of", "_law_one_of", defArgs s_law_one_of, defBody s_law_one_of, defScope s_law_one_of, [], []⟩,
  ⟨("_law_shuffled", none), "_law_shuffled", "_law_shuffled", defArgs s_law_shuffled, defBody s_law_shuffled, defScope s_law_shuffled, [], []⟩,
  ⟨("_law_word", none), "_law_word", "_law_word", defArgs s_law_word, defBody s_law_word, defScope s_law_word, [], []⟩,
  ⟨("_law_names", none), "_law_names", "_law_names", defArgs s_law_names, defBody s_law_names, defScope s_law_names, [], []⟩,
  ⟨("_law_rows_of", none), "_law_rows_of", "_law_rows_of", defArgs s_law_rows_of, defBody s_law_rows_of, defScope s_law_rows_of, [], []⟩,
  ⟨("_law_fields", none), "_law_fields", "_law_fields", defArgs s_law_fields, defBody s_law_fields, defScope s_law_fields, [], []⟩,
  ⟨("_law_is_part", none), "_law_is_part", "_law_is_part", defArgs s_law_is_part, defBody s_law_is_part, defScope s_law_is_part, [], []⟩,
  ⟨("_law_least", none), "_law_least", "_law_least", defArgs s_law_least, defBody s_law_least, defScope s_law_least, [], []⟩,
  ⟨("_law_lots", none), "_law_lots", "_law_lots", defArgs s_law_lots, defBody s_law_lots, defScope s_law_lots, [], []⟩,
  ⟨("_law_is_within", none), "_law_is_within", "_law_is_within", defArgs s_law_is_within, defBody s_law_is_within, defScope s_law_is_within, [], []⟩,
  ⟨("_law_is_alike", none), "_law_is_alike", "_law_is_alike", defArgs s_law_is_alike, defBody s_law_is_alike, defScope s_law_is_alike, [], []⟩,
  ⟨("_law_meets", none), "_law_meets", "_law_meets", defArgs s_law_meets, defBody s_law_meets, defScope s_law_meets, [], []⟩,
  ⟨("_law_row_keeps", none), "_law_row_keeps", "_law_row_keeps", defArgs s_law_row_keeps, defBody s_law_row_keeps, defScope s_law_row_keeps, [], []⟩,
  ⟨("_law_all_rows", none), "_law_all_rows", "_law_all_rows", defArgs s_law_all_rows, defBody s_law_all_rows, defScope s_law_all_rows, [], []⟩,
  ⟨("_law_some_names", none), "_law_some_names", "_law_some_names", defArgs s_law_some_names, defBody s_law_some_names, defScope s_law_some_names, [], []⟩,
  ⟨("_law_offs", none), "_law_offs", "_law_offs", defArgs s_law_offs, defBody s_law_offs, defScope s_law_offs, [], []⟩,
  ⟨("_law_kept_rows", none), "_law_kept_rows", "_law_kept_rows", defArgs s_law_kept_rows, defBody s_law_kept_rows, defScope s_law_kept_rows, [], []⟩,
  ⟨("_law_least_offs", none), "_law_least_offs", "_law_least_offs", defArgs s_law_least_offs, defBody s_law_least_offs, defScope s_law_least_offs, [], []⟩,
  ⟨("_law_own_lines", none), "_law_own_lines", "_law_own_lines", defArgs s_law_own_lines, defBody s_law_own_lines, defScope s_law_own_lines, [], []⟩,
  ⟨("_law_other_rows", none), "_law_other_rows", "_law_other_rows", defArgs s_law_other_rows, defBody s_law_other_rows, defScope s_law_other_rows, [], []⟩,
  ⟨("_law_right", none), "_law_right", "_law_right", defArgs s_law_right, defBody s_law_right, defScope s_law_right, [], []⟩,
  ⟨("law", none), "law", "law", defArgs s_law, defBody s_law, defScope s_law, [], []⟩,
  ⟨("Panel", some "__init__"), "__init__", "Panel.__init__", defArgs s_Panel_init, defBody s_Panel_init, defScope s_Panel_init, [], []⟩,
  ⟨("Panel", some "entries"), "entries", "Panel.entries", defArgs s_Panel_entries, defBody s_Panel_entries, defScope s_Panel_entries, [], []⟩,
  ⟨("Panel", some "rows"), "rows", "Panel.rows", defArgs s_Panel_rows, defBody s_Panel_rows, defScope s_Panel_rows, [], []⟩,
  ⟨("Book", some "__init__"), "__init__", "Book.__init__", defArgs s_Book_init, defBody s_Book_init, defScope s_Book_init, [], []⟩,
  ⟨("Book", some "entries"), "entries", "Book.entries", defArgs s_Book_entries, defBody s_Book_entries, defScope s_Book_entries, [], []⟩,
  ⟨("Book", some "lines"), "lines", "Book.lines", defArgs s_Book_lines, defBody s_Book_lines, defScope s_Book_lines, [], []⟩,
  ⟨("Book", some "__eq__"), "__eq__", "Book.__eq__", defArgs s_Book_eq, defBody s_Book_eq, defScope s_Book_eq, [], []⟩]
def dfa : List He.Fa := [.glo "is_name", .glo "are_names", .glo "are_entries", .glo "is_ascending", .glo "is_lot", .glo "is_field", .glo "check_entries", .glo "spots_of", .glo "is_row", .glo "are_rows", .glo "check_panel", .glo "is_line", .glo "copied", .glo "check_book", .glo "check_two", .glo "is_met", .glo "break_of", .glo "first_break", .glo "keeps", .glo "is_part", .glo "least_of", .glo "lots_in", .glo "all_lots", .glo "lots_of", .glo "doubled", .glo "names_in", .glo "mark_of", .glo "meets_all", .glo "is_least_mark", .glo "meeting", .glo "least_meeting", .glo "whole_book", .glo "book_of", .glo "_law_purse", .glo "_law_mixed", .glo "_law_draw", .glo "_law_purses", .glo "_law_one_of", .glo "_law_shuffled", .glo "_law_word", .glo "_law_names", .glo "_law_rows_of", .glo "_law_fields", .glo "_law_is_part", .glo "_law_least", .glo "_law_lots", .glo "_law_is_within", .glo "_law_is_alike", .glo "_law_meets", .glo "_law_row_keeps", .glo "_law_all_rows", .glo "_law_some_names", .glo "_law_offs", .glo "_law_kept_rows", .glo "_law_least_offs", .glo "_law_own_lines", .glo "_law_other_rows", .glo "_law_right", .glo "law", .glo "Panel", .glo "Book", .free "len", .free "isinstance", .free "list", .free "sorted", .free "set", .free "dict", .free "enumerate", .free "range", .free "sum", .free "tuple", .free "max", .free "min", .free "str", .str "LETTERS" "abcdefghijklmnopqrstuvwxyz", .cls "Panel", .mkr "Panel", .keep "Panel", .cls "Book", .mkr "Book", .keep "Book", .meth "Panel" "__init__", .meth "Panel" "entries", .meth "Panel" "rows", .meth "Book" "__init__", .meth "Book" "entries", .meth "Book" "lines", .meth "Book" "__eq__", .noat "Panel" "names", .noat "Panel" "orders", .noat "Panel" "spots", .noat "Book" "names", .noat "Book" "told"]
def nm0 : List PySem.Str := ["_wall", "is_name", "are_names", "are_entries", "is_ascending", "is_lot", "is_field", "check_entries", "spots_of", "is_row", "are_rows", "check_panel", "is_line", "copied", "check_book", "check_two", "is_met", "break_of", "first_break", "keeps", "is_part", "least_of", "lots_in", "all_lots", "lots_of", "doubled", "names_in", "mark_of", "meets_all", "is_least_mark"]
def nm1 : List PySem.Str := ["meeting", "least_meeting", "whole_book", "book_of", "_law_purse", "_law_mixed", "_law_draw", "_law_purses", "_law_one_of", "_law_shuffled", "_law_word", "_law_names", "_law_rows_of", "_law_fields", "_law_is_part", "_law_least", "_law_lots", "_law_is_within", "_law_is_alike", "_law_meets", "_law_row_keeps", "_law_all_rows", "_law_some_names", "_law_offs", "_law_kept_rows", "_law_least_offs", "_law_own_lines", "_law_other_rows", "_law_right", "ShowError"]
def nm2 : List PySem.Str := ["InvalidEntries", "InvalidRows", "InvalidPanel", "InvalidLots", "Unlike", "InvalidBook", "InvalidLine", "Panel", "Book", "LETTERS"]
def names : List PySem.Str := nm0 ++ nm1 ++ nm2
/-! what isinstance asks of the two classes -/
def insB (K : PySem.W.Frag) (x : Str) : Bool :=
  (He.eqO (PySem.W.findIn K (.ref (He.ga K x)) "__class__") (some (some (.builtin "object.__class__"))) &&
   He.eqO (PySem.W.specialIn K (.builtin "object.__class__") "__get__") (some (some (.builtin "getset_descriptor.__get__")))) &&
  (decide (PySem.W.takesIn K (.builtin "object.__class__") = some true) &&
  (decide (PySem.W.mroIn K (He.ga K x) (.type "object") = some true) &&
   decide (PySem.W.kitOne K (.ref (He.ga K x)) (.ref (He.ga K x)) = some true)))
theorem insB_ok {K : PySem.W.Frag} {x : Str} (c : Cls K (He.ga K x)) (h : insB K x = true) : C8.InsC K (He.ga K x) := by
  obtain ⟨h1, h2⟩ := He.ba h
  obtain ⟨a1, a2⟩ := He.ba h1
  obtain ⟨b1, h3⟩ := He.ba h2
  obtain ⟨b2, b3⟩ := He.ba h3
  exact ⟨c, He.eqO_ok a1, He.eqO_ok a2, of_decide_eq_true b1, of_decide_eq_true b2, of_decide_eq_true b3⟩
abbrev AlM : Type := Bool × He.AlD
/-! != by the class object's own -/
def neB (K : PySem.W.Frag) (x : Str) : Bool := He.eqO (PySem.W.findIn K (.ref (He.ga K x)) "__ne__") (some (some (.builtin "object.__ne__")))
def obsM (K : PySem.W.Frag) : AlM := ((insB K "Panel" && insB K "Book") && neB K "Book", He.obsD dfa dfn K)
def valM : AlM := (true, He.valD dfn)
def SaysM (K : PySem.W.Frag) : Prop := obsM K = valM
def obsMG (n : Nat) (g : Addr → Option Obj) : AlM := obsM (He.frG g (He.asD g n))
def hookM (n : Nat) : PySem.W.Hook where
  α := AlM
  obs := fun s => obsMG n s.heap.get?
  val := fun _ => valM
  says := fun _ h => ∃ K : PySem.W.Frag, K.In h ∧ SaysM K
  of := fun _ _ e => ⟨_, He.frG_in, e⟩
  keeps := fun _ _ _ ⟨K, hK, c⟩ k => ⟨K, PySem.W.Frag.In.keeps hK k, c⟩
abbrev R : PySem.W.OpenRow := PySem.W.OpenLaw.row PySem.Challenge.rw_cardpanel_k71_whole_books_of_panels
abbrev hk : PySem.W.Hook := hookM 5
def ob (s : PySem.W.SharedT) : AlM := obsMG 5 (HandSHeadRun.getT s)
theorem ob_eq (s : PySem.W.SharedT) : ob s = hk.obs s.abs := by
  have e : HandSHeadRun.getT s = s.abs.heap.get? := funext (HandSHeadRun.getT_eq s)
  show obsMG 5 (HandSHeadRun.getT s) = obsMG 5 s.abs.heap.get?
  rw [e]
theorem run (w : World) : HandSHeadRun.RunEq R (PySem.W.view R.prog [79]) hk ob 6000 names w := by
  intro os
  kernel_rfl
end Cp
namespace Cp
open PySem PySem.Spec PyProof.Rows L2
/-! ### heaps with a part that holds data -/
theorem same_none {S H : Hp} {p : Addr} (h : Same S H) (n : H p = none) : S p = none := h.free n
structure Fp (S H S' H' : Hp) : Prop where
  ss : Same S S'
  sh : Same S' H'
  hh : Same H H'
  fr : ∀ a, S a = none → H a ≠ none → S' a = none
theorem Fp.refl {S H : Hp} (h : Same S H) : Fp S H S H := ⟨Same.refl _, h, Same.refl _, fun _ e _ => e⟩
theorem Fp.trans {S H S1 H1 S2 H2 : Hp} (a : Fp S H S1 H1) (b : Fp S1 H1 S2 H2) : Fp S H S2 H2 :=
  ⟨a.ss.trans b.ss, b.sh, a.hh.trans b.hh, fun x e n => b.fr x (a.fr x e n) fun z => n (a.hh.free z)⟩
theorem Fp.new {S H : Hp} {p : Addr} {o : HO} (h : Same S H) (n : H p = none) : Fp S H (upd S p o) (upd H p o) := by
  refine ⟨fun b u e => ?_, fun b u e => ?_, fun b u e => ?_, fun b e z => ?_⟩
  · rw [upd_ne (ne_of_none e (same_none h n))]; exact e
  · by_cases q : b = p
    · subst q; rw [upd_same] at e ⊢; exact e
    · rw [upd_ne q] at e ⊢; exact h b u e
  · rw [upd_ne (ne_of_none e n)]; exact e
  · by_cases q : b = p
    · subst q; exact absurd n z
    · rw [upd_ne q]; exact e
/-- a new object that is no data -/
theorem Fp.newH {S H : Hp} {p : Addr} {o : HO} (h : Same S H) (n : H p = none) : Fp S H S (upd H p o) := by
  refine ⟨Same.refl _, fun b u e => ?_, fun b u e => ?_, fun b e z => e⟩
  · rw [upd_ne (ne_of_none e (same_none h n))]; exact h b u e
  · rw [upd_ne (ne_of_none e n)]; exact e
/-! ### what a value stands for -/
structure Rl where
  p : Hp → V → Prop
  m : ∀ {S S' : Hp} {v : V}, Same S S' → p S v → p S' v
class Rep (α : Type) where
  rep : Hp → V → α → Prop
  mono : ∀ {S S' : Hp} {v : V} {a : α}, Same S S' → rep S v a → rep S' v a
  enc : α → PyData
  dep : Nat
  dp : ∀ {K : PySem.W.Frag} {H : Hp} {v : V} {a : α}, rep H v a → Dp K H v (enc a)
  lay : ∀ {H : Hp} {v : V} {a : α}, rep H v a → (enc a).canLay0 = true
  dle : ∀ a, (enc a).depth ≤ dep
  eqv : ∀ a b, PyData.eqv (enc a) (enc b) = true ↔ a = b
def dt {α : Type} [Rep α] (a : α) : Rl := ⟨fun S v => Rep.rep S v a, Rep.mono⟩
theorem Rep.shaped {α : Type} [Rep α] (h : Rep.dep α ≤ 64) {H : Hp} {v : V} {a : α} (r : Rep.rep H v a) : SeqAt.shaped (Rep.enc a) = true := by
  unfold SeqAt.shaped
  rw [Rep.lay r, Bool.true_and]
  exact decide_eq_true (Nat.le_trans (Rep.dle a) h)
theorem Rep.eqd {α : Type} [Rep α] [DecidableEq α] (a b : α) : PyData.eqv (Rep.enc a) (Rep.enc b) = decide (a = b) := by
  by_cases h : a = b
  · rw [decide_eq_true h]; exact (Rep.eqv a b).mpr h
  · rw [decide_eq_false h]
    cases q : PyData.eqv (Rep.enc a) (Rep.enc b) with
    | false => rfl
    | true => exact absurd ((Rep.eqv a b).mp q) h
instance : Rep Int where
  rep _ v i := v = .int i
  mono _ h := h
  enc := .int
  dep := 1
  dp h := by subst h; exact .int _
  lay _ := by simp [PyData.canLay0]
  dle _ := by simp [PyData.depth]
  eqv a b := by simp [PyData.eqv]
instance : Rep Bool where
  rep _ v i := v = .bl i
  mono _ h := h
  enc := .bool
  dep := 1
  dp h := by subst h; exact .bl _
  lay _ := by simp [PyData.canLay0]
  dle _ := by simp [PyData.depth]
  eqv a b := by simp [PyData.eqv]
def most : Nat := 4000
/-- texts are kept short -/
def sOk (x : Str) : Prop := PyData.strOk x = true ∧ x.length ≤ most
instance (x : Str) : Decidable (sOk x) := inferInstanceAs (Decidable (_ ∧ _))
instance : Rep Str where
  rep _ v i := v = .str i ∧ sOk i
  mono _ h := h
  enc := .str
  dep := 1
  dp h := by obtain ⟨rfl, _⟩ := h; exact .str _
  lay h := by simp only [PyData.canLay0]; exact h.2.1
  dle _ := by simp [PyData.depth]
  eqv a b := by simp [PyData.eqv]
section
variable {α : Type} [Rep α]
abbrev Reps (H : Hp) : List V → List α → Prop := Paired (Rep.rep H)
theorem Reps.mono {S S' : Hp} (e : Same S S') : ∀ {vs : List V} {xs : List α}, Reps S vs xs → Reps S' vs xs
  | _, _, .nil => .nil
  | _, _, .cons r t => .cons (Rep.mono e r) (Reps.mono e t)
theorem Reps.get {H : Hp} : ∀ {vs : List V} {xs : List α} {i : Nat} {v : V}, Reps H vs xs → vs[i]? = some v → ∃ x, xs[i]? = some x ∧ Rep.rep H v x
  | _, _, _, _, .nil, e => by simp at e
  | _, _, 0, _, .cons r _, e => by simp at e; subst e; exact ⟨_, rfl, r⟩
  | _, _, i + 1, v, .cons _ t, e => by
    obtain ⟨x, h1, h2⟩ := Reps.get (i := i) (v := v) t (by simpa using e)
    exact ⟨x, by simpa using h1, h2⟩
theorem Reps.at {H : Hp} : ∀ {vs : List V} {xs : List α} {i : Nat} {x : α}, Reps H vs xs → xs[i]? = some x → ∃ v, vs[i]? = some v ∧ Rep.rep H v x
  | _, _, _, _, .nil, e => by simp at e
  | _, _, 0, _, .cons r _, e => by simp at e; subst e; exact ⟨_, rfl, r⟩
  | _, _, i + 1, v, .cons _ t, e => by
    obtain ⟨x, h1, h2⟩ := Reps.at (i := i) (x := v) t (by simpa using e)
    exact ⟨x, by simpa using h1, h2⟩
theorem Reps.len {H : Hp} {vs : List V} {xs : List α} (r : Reps H vs xs) : vs.length = xs.length := Paired.length r
theorem Reps.append {H : Hp} : ∀ {xs ys : List V} {us ws : List α}, Reps H xs us → Reps H ys ws → Reps H (xs ++ ys) (us ++ ws)
  | _, _, _, _, .nil, s => s
  | _, _, _, _, .cons r t, s => .cons r (Reps.append t s)
theorem Reps.snoc {H : Hp} {vs : List V} {xs : List α} {v : V} {x : α} (r : Reps H vs xs) (h : Rep.rep H v x) : Reps H (vs ++ [v]) (xs ++ [x]) := r.append (.cons h .nil)
theorem Reps.take {H : Hp} : ∀ {xs : List V} {us : List α} (n : Nat), Reps H xs us → Reps H (xs.take n) (us.take n)
  | _, _, 0, _ => .nil
  | _, _, _ + 1, .nil => .nil
  | _, _, n + 1, .cons r t => .cons r (Reps.take n t)
theorem Reps.drop {H : Hp} : ∀ {xs : List V} {us : List α} (n : Nat), Reps H xs us → Reps H (xs.drop n) (us.drop n)
  | _, _, 0, r => r
  | _, _, _ + 1, .nil => .nil
  | _, _, n + 1, .cons _ t => Reps.drop n t
theorem Reps.reverse {H : Hp} : ∀ {xs : List V} {us : List α}, Reps H xs us → Reps H xs.reverse us.reverse
  | _, _, .nil => .nil
  | _, _, .cons r t => by
    rw [List.reverse_cons, List.reverse_cons]
    exact (Reps.reverse t).append (.cons r .nil)
theorem Reps.dpAll {K : PySem.W.Frag} {H : Hp} : ∀ {vs : List V} {xs : List α}, Reps H vs xs → DpAll K H vs (xs.map Rep.enc)
  | _, _, .nil => .nil
  | _, _, .cons r t => .cons (Rep.dp r) (Reps.dpAll t)
theorem lay_all {H : Hp} : ∀ {vs : List V} {xs : List α}, Reps H vs xs → PyData.canLayAll0 (xs.map Rep.enc) = true
  | _, _, .nil => by simp [PyData.canLayAll0]
  | _, _, .cons r t => by rw [List.map_cons, PyData.canLayAll0, Rep.lay r, lay_all t]; rfl
theorem dle_all : ∀ xs : List α, PyData.depthAll (xs.map Rep.enc) ≤ Rep.dep α
  | [] => by simp [PyData.depthAll]
  | x :: xs => by
    have h1 := dle_all xs
    have h2 := Rep.dle x
    simp only [List.map_cons, PyData.depthAll]
    omega
theorem eqv_all : ∀ xs ys : List α, PyData.eqvAll (xs.map Rep.enc) (ys.map Rep.enc) = true ↔ xs = ys
  | [], [] => by simp [PyData.eqvAll]
  | [], y :: ys => by simp [PyData.eqvAll]
  | x :: xs, [] => by simp [PyData.eqvAll]
  | x :: xs, y :: ys => by
    rw [List.map_cons, List.map_cons, PyData.eqvAll, Bool.and_eq_true, Rep.eqv, eqv_all xs ys, List.cons.injEq]
instance : Rep (List α) where
  rep H v xs := ∃ p vs, v = .ref p ∧ H p = some (.lst vs) ∧ xs.length ≤ most ∧ Reps H vs xs
  mono e h := by
    obtain ⟨p, vs, rfl, h1, h2, h3⟩ := h
    exact ⟨p, vs, rfl, e _ _ h1, h2, h3.mono e⟩
  enc xs := .list (xs.map Rep.enc)
  dep := Rep.dep α + 1
  dp h := by
    obtain ⟨p, vs, rfl, h1, h2, h3⟩ := h
    exact .lst (SqL.of h1) h3.dpAll
  lay h := by
    obtain ⟨p, vs, rfl, h1, h2, h3⟩ := h
    simp only [PyData.canLay0]; exact lay_all h3
  dle xs := by
    have h := dle_all xs
    simp only [PyData.depth]
    omega
  eqv a b := by rw [PyData.eqv]; exact eqv_all a b
/-- a tuple of many things of one kind -/
structure Tp (α : Type) where
  l : List α
  deriving DecidableEq
instance : Rep (Tp α) where
  rep H v xs := ∃ p vs, v = .ref p ∧ H p = some (.tup vs) ∧ xs.l.length ≤ most ∧ Reps H vs xs.l
  mono e h := by
    obtain ⟨p, vs, rfl, h1, h2, h3⟩ := h
    exact ⟨p, vs, rfl, e _ _ h1, h2, h3.mono e⟩
  enc xs := .tuple (xs.l.map Rep.enc)
  dep := Rep.dep α + 1
  dp h := by
    obtain ⟨p, vs, rfl, h1, h2, h3⟩ := h
    exact .tup (SqT.of h1) h3.dpAll
  lay h := by
    obtain ⟨p, vs, rfl, h1, h2, h3⟩ := h
    simp only [PyData.canLay0]; exact lay_all h3
  dle xs := by
    have h := dle_all xs.l
    simp only [PyData.depth]
    omega
  eqv a b := by
    obtain ⟨a⟩ := a
    obtain ⟨b⟩ := b
    rw [PyData.eqv, Tp.mk.injEq]
    exact eqv_all a b
variable {β : Type} [Rep β]
instance : Rep (α × β) where
  rep H v x := ∃ p v1 v2, v = .ref p ∧ H p = some (.tup [v1, v2]) ∧ Rep.rep H v1 x.1 ∧ Rep.rep H v2 x.2
  mono e h := by
    obtain ⟨p, v1, v2, rfl, h1, h2, h3⟩ := h
    exact ⟨p, v1, v2, rfl, e _ _ h1, Rep.mono e h2, Rep.mono e h3⟩
  enc x := .tuple [Rep.enc x.1, Rep.enc x.2]
  dep := Rep.dep α + Rep.dep β + 1
  dp h := by
    obtain ⟨p, v1, v2, rfl, h1, h2, h3⟩ := h
    exact .tup (SqT.of h1) (.cons (Rep.dp h2) (.cons (Rep.dp h3) .nil))
  lay h := by
    obtain ⟨p, v1, v2, rfl, h1, h2, h3⟩ := h
    simp [PyData.canLay0, PyData.canLayAll0, Rep.lay h2, Rep.lay h3]
  dle x := by
    have h1 := Rep.dle x.1
    have h2 := Rep.dle x.2
    simp only [PyData.depth, PyData.depthAll]
    omega
  eqv p q := by
    obtain ⟨a, b⟩ := p
    obtain ⟨c, d⟩ := q
    simp [PyData.eqv, PyData.eqvAll, Rep.eqv]
end
/-- a line of a book -/
structure Ln where
  word : Str
  lot : List Str
  who : Str
  deriving DecidableEq
instance : Rep Ln where
  rep H v x := ∃ p v1 v2 v3, v = .ref p ∧ H p = some (.tup [v1, v2, v3]) ∧ Rep.rep H v1 x.word ∧ Rep.rep H v2 x.lot ∧ Rep.rep H v3 x.who
  mono e h := by
    obtain ⟨p, v1, v2, v3, rfl, h1, h2, h3, h4⟩ := h
    exact ⟨p, v1, v2, v3, rfl, e _ _ h1, Rep.mono e h2, Rep.mono e h3, Rep.mono e h4⟩
  enc x := .tuple [Rep.enc x.word, Rep.enc x.lot, Rep.enc x.who]
  dep := 6
  dp h := by
    obtain ⟨p, v1, v2, v3, rfl, h1, h2, h3, h4⟩ := h
    exact .tup (SqT.of h1) (.cons (Rep.dp h2) (.cons (Rep.dp h3) (.cons (Rep.dp h4) .nil)))
  lay h := by
    obtain ⟨p, v1, v2, v3, rfl, h1, h2, h3, h4⟩ := h
    simp [PyData.canLay0, PyData.canLayAll0, Rep.lay h2, Rep.lay h3, Rep.lay h4]
  dle x := by
    have h1 := Rep.dle x.word
    have h2 := Rep.dle x.lot
    have h3 := Rep.dle x.who
    have e1 : Rep.dep Str = 1 := rfl
    have e2 : Rep.dep (List Str) = 2 := rfl
    simp only [PyData.depth, PyData.depthAll]
    omega
  eqv p q := by
    obtain ⟨a, b, c⟩ := p
    obtain ⟨a', b', c'⟩ := q
    simp [PyData.eqv, PyData.eqvAll, Rep.eqv]
/-! ### what evaluates to what -/
def Go (t : TE) (σ : L2.St) (S : Hp) (r : Rl) : Prop := ∀ S1 H1, Same S S1 → Same S1 H1 → ∀ Q : VK, (∀ v S2 H2, Fp S1 H1 S2 H2 → r.p S2 v → Q v H2) → t σ H1 Q
def GoT (t : TT) (σ : L2.St) (S : Hp) (b : Bool) : Prop := ∀ S1 H1, Same S S1 → Same S1 H1 → ∀ Q : Bool → Hp → Prop, (∀ S2 H2, Fp S1 H1 S2 H2 → Q b H2) → t σ H1 Q
/-- argument lists -/
def All2 (S : Hp) : List Rl → List V → Prop
  | [], vs => vs = []
  | r :: rs, vs => ∃ v ws, vs = v :: ws ∧ r.p S v ∧ All2 S rs ws
theorem All2.mono {S S' : Hp} (e : Same S S') : ∀ {rs : List Rl} {vs : List V}, All2 S rs vs → All2 S' rs vs
  | [], _, h => h
  | r :: rs, _, h => by
    obtain ⟨v, ws, rfl, h1, h2⟩ := h
    exact ⟨v, ws, rfl, r.m e h1, All2.mono e h2⟩
def GoA (t : TA) (σ : L2.St) (S : Hp) (rs : List Rl) : Prop := ∀ S1 H1, Same S S1 → Same S1 H1 → ∀ Q : List V → Hp → Prop, (∀ vs S2 H2, Fp S1 H1 S2 H2 → All2 S2 rs vs → Q vs H2) → t σ H1 Q
section
variable {σ : L2.St} {S S' : Hp} {t u : TE} {r r1 r2 : Rl}
theorem Go.mono (h : Go t σ S r) (e : Same S S') : Go t σ S' r := fun S1 H1 a b Q q => h S1 H1 (e.trans a) b Q q
theorem GoT.mono {t : TT} {b : Bool} (h : GoT t σ S b) (e : Same S S') : GoT t σ S' b := fun S1 H1 a b Q q => h S1 H1 (e.trans a) b Q q
theorem GoA.mono {t : TA} {rs : List Rl} (h : GoA t σ S rs) (e : Same S S') : GoA t σ S' rs := fun S1 H1 a b Q q => h S1 H1 (e.trans a) b Q q
theorem go_var {i : Nat} {v : V} (h : σ[i]? = some (some v)) (hr : r.p S v) : Go (tVar i) σ S r := fun S1 H1 a b _ q => ⟨v, h, q v S1 H1 (Fp.refl b) (r.m a hr)⟩
theorem go_c {v : V} (hr : r.p S v) : Go (tC v) σ S r := fun S1 H1 a b _ q => q v S1 H1 (Fp.refl b) (r.m a hr)
/-- a two-place operation by values -/
def OpD (o : R2) (r1 r2 r : Rl) (S : Hp) : Prop := ∀ S1 H1 x y, Same S S1 → Same S1 H1 → r1.p S1 x → r2.p S1 y → ∀ Q : VK, (∀ v S2 H2, Fp S1 H1 S2 H2 → r.p S2 v → Q v H2) → o x y H1 Q
theorem go_op {o : R2} (ha : Go t σ S r1) (hb : Go u σ S r2) (ho : OpD o r1 r2 r S) : Go (tOp o t u) σ S r := fun S1 H1 a b Q q =>
  ha S1 H1 a b _ fun x S2 H2 f2 hx => hb S2 H2 (a.trans f2.ss) f2.sh _ fun y S3 H3 f3 hy =>
    ho S3 H3 x y ((a.trans f2.ss).trans f3.ss) f3.sh (r1.m f3.ss hx) hy Q fun v S4 H4 f4 hv => q v S4 H4 ((f2.trans f3).trans f4) hv
/-- a one-place one -/
def UnD (o : V → Hp → VK → Prop) (r1 r : Rl) (S : Hp) : Prop := ∀ S1 H1 x, Same S S1 → Same S1 H1 → r1.p S1 x → ∀ Q : VK, (∀ v S2 H2, Fp S1 H1 S2 H2 → r.p S2 v → Q v H2) → o x H1 Q
theorem go_un {o : V → Hp → VK → Prop} (ha : Go t σ S r1) (ho : UnD o r1 r S) : Go (tUn o t) σ S r := fun S1 H1 a b Q q =>
  ha S1 H1 a b _ fun x S2 H2 f2 hx => ho S2 H2 x (a.trans f2.ss) f2.sh hx Q fun v S4 H4 f4 hv => q v S4 H4 (f2.trans f4) hv
theorem ga_nil : GoA tNil σ S [] := fun S1 H1 a b Q q => q [] S1 H1 (Fp.refl b) rfl
theorem ga_cons {ta : TA} {rs : List Rl} (h : Go t σ S r) (ht : GoA ta σ S rs) : GoA (tCons t ta) σ S (r :: rs) := fun S1 H1 a b Q q =>
  h S1 H1 a b _ fun x S2 H2 f2 hx => ht S2 H2 (a.trans f2.ss) f2.sh _ fun vs S3 H3 f3 hv => q (x :: vs) S3 H3 (f2.trans f3) ⟨x, vs, rfl, r.m f3.ss hx, hv⟩
/-- an operation on argument lists -/
def CaD (o : List V → Hp → VK → Prop) (rs : List Rl) (r : Rl) (S : Hp) : Prop := ∀ S1 H1 vs, Same S S1 → Same S1 H1 → All2 S1 rs vs → ∀ Q : VK, (∀ v S2 H2, Fp S1 H1 S2 H2 → r.p S2 v → Q v H2) → o vs H1 Q
theorem go_cb {ta : TA} {rs : List Rl} {o : List V → Hp → VK → Prop} (h : GoA ta σ S rs) (ho : CaD o rs r S) : Go (tCB o ta) σ S r := fun S1 H1 a b Q q =>
  h S1 H1 a b _ fun vs S2 H2 f2 hx => ho S2 H2 vs (a.trans f2.ss) f2.sh hx Q fun v S4 H4 f4 hv => q v S4 H4 (f2.trans f4) hv
theorem small_line {n : Nat} (h : n ≤ most) : n ≤ sizeLine := Nat.le_trans h (by decide)
theorem small_lt {n : Nat} (h : n ≤ most) : n < sizeLine := Nat.lt_of_le_of_lt h (by decide)
end
end Cp
namespace Cp
open PySem PySem.Spec PyProof.Rows L2
/-! ### the weakest readings -/
def wE (X : Cx) (e : Expr) : TE := fun σ H Q => ∀ (pins : List (Addr × Obj)) (s : Shared), Inv X pins σ H s → wpAny (model X.prog X.w) X.A (eval e X.env) (EP X pins σ Q) X.xe s
def wT (X : Cx) (e : Expr) : TT := fun σ H Q => ∀ (pins : List (Addr × Obj)) (s : Shared), Inv X pins σ H s → wpAny (model X.prog X.w) X.A (isTrue e X.env (eval e X.env)) (TP X pins σ Q) X.xe s
def wW (X : Cx) (e : Expr) : TT := fun σ H Q => ∀ (whole : Sem Value) (pins : List (Addr × Obj)) (s : Shared), Inv X pins σ H s → wpAny (model X.prog X.w) X.A (isTrue e X.env whole) (TP X pins σ Q) X.xe s
@[irreducible] def wS (X : Cx) (st : Stmt) : TS := fun D σ H => ∀ (pins : List (Addr × Obj)) (s : Shared), Inv X pins σ H s → wpAny (model X.prog X.w) X.A (exec st X.env) (SP X pins D) X.xe s
@[irreducible] def wSs (X : Cx) (st : List Stmt) : TS := fun D σ H => ∀ (pins : List (Addr × Obj)) (s : Shared), Inv X pins σ H s → wpAny (model X.prog X.w) X.A (execs st X.env) (SP X pins D) X.xe s
section
variable {X : Cx} {e : Expr} {st : Stmt} {sts : List Stmt}
theorem wE.pe : PE X e (wE X e) := ⟨fun pins s _ _ _ I h => h pins s I⟩
theorem wT.pt : PT X e (wT X e) := ⟨fun pins s _ _ _ I h => h pins s I⟩
theorem wW.pw : PW X e (wW X e) := ⟨fun w pins s _ _ _ I h => h w pins s I⟩
theorem wS.ps : PS X st (wS X st) := ⟨fun pins s _ _ _ I h => by unfold wS at h; exact h pins s I⟩
theorem wSs.ps : PSs X sts (wSs X sts) := ⟨fun pins s _ _ _ I h => by unfold wSs at h; exact h pins s I⟩
theorem wSs_run {D : Ends} {σ : L2.St} {H : Hp} (h : wSs X sts D σ H) (pins : List (Addr × Obj)) (s : Shared) (I : Inv X pins σ H s) : wpAny (model X.prog X.w) X.A (execs sts X.env) (SP X pins D) X.xe s := by unfold wSs at h; exact h pins s I
theorem wSs_mk {D : Ends} {σ : L2.St} {H : Hp} (h : ∀ (pins : List (Addr × Obj)) (s : Shared), Inv X pins σ H s → wpAny (model X.prog X.w) X.A (execs sts X.env) (SP X pins D) X.xe s) : wSs X sts D σ H := by unfold wSs; exact h
theorem of_ps {t : TS} (h : PS X st t) {D : Ends} {σ : L2.St} {H : Hp} (q : t D σ H) : wS X st D σ H := by unfold wS; exact fun pins s I => h.run pins s σ H D I q
theorem of_pss {t : TS} (h : PSs X sts t) {D : Ends} {σ : L2.St} {H : Hp} (q : t D σ H) : wSs X sts D σ H := by unfold wSs; exact fun pins s I => h.run pins s σ H D I q
end
abbrev GE (X : Cx) (e : Expr) (σ : L2.St) (S : Hp) (r : Rl) : Prop := Go (wE X e) σ S r
abbrev GT (X : Cx) (e : Expr) (σ : L2.St) (S : Hp) (b : Bool) : Prop := GoT (wT X e) σ S b
abbrev GW (X : Cx) (e : Expr) (σ : L2.St) (S : Hp) (b : Bool) : Prop := GoT (wW X e) σ S b
/-- argument lists, by their derivation -/
def GA (X : Cx) (es : List Expr) (σ : L2.St) (S : Hp) (rs : List Rl) : Prop := ∃ t, PA X es t ∧ GoA t σ S rs
section
variable {X : Cx} {σ : L2.St} {S : Hp} {e a b : Expr} {es : List Expr} {r r1 r2 : Rl} {rs : List Rl} {pos : Pos}
theorem ge_of {t : TE} (h : PE X e t) (g : Go t σ S r) : GE X e σ S r := fun S1 H1 a b Q q pins s I => h.run pins s σ H1 Q I (g S1 H1 a b Q q)
theorem gt_of {t : TT} {k : Bool} (h : PT X e t) (g : GoT t σ S k) : GT X e σ S k := fun S1 H1 a b Q q pins s I => h.run pins s σ H1 Q I (g S1 H1 a b Q q)
theorem gw_of {t : TT} {k : Bool} (h : PW X e t) (g : GoT t σ S k) : GW X e σ S k := fun S1 H1 a b Q q w pins s I => h.run w pins s σ H1 Q I (g S1 H1 a b Q q)
theorem gt_w {k : Bool} (g : GW X e σ S k) : GT X e σ S k := gt_of wW.pw.pt g
theorem Go.is {t : TE} (g : Go t σ S r1) (h : r1 = r2) : Go t σ S r2 := h ▸ g
theorem GoT.is {t : TT} {k k' : Bool} (g : GoT t σ S k) (h : k = k') : GoT t σ S k' := h ▸ g
/-- a name -/
theorem ge_name {x : Str} (i : Nat) {v : V} (hi : σ[i]? = some (some v)) (hr : r.p S v) (hN : X.N[i]? = some x := by rfl) (hv : Vis X.env.scope x := by first | exact Or.inl rfl | exact Or.inr (Or.inl rfl) | exact Or.inr (Or.inr rfl))
    (hd : (x == ("__debug__" : Str)) = false := by decide) (hcd : (x == ("__classdict__" : Str)) = false := by decide) : GE X (.Name x pos) σ S r := ge_of (pe_var hN hv hd hcd) (go_var hi hr)
theorem ge_int {i : Int} {j} : GE X (.Constant (.int i) j pos) σ S (dt i) := ge_of pe_int (go_c rfl)
theorem ge_bool {i : Bool} {j} : GE X (.Constant (.bool i) j pos) σ S (dt i) := ge_of pe_bl (go_c rfl)
theorem ge_str {i : Str} {j} (h : sOk i := by decide +kernel) : GE X (.Constant (.str i) j pos) σ S (dt i) := ge_of pe_str (go_c ⟨rfl, h⟩)
/-- None -/
def rNon : Rl := ⟨fun _ v => v = .non, fun _ h => h⟩
theorem ge_none {j} : GE X (.Constant .none j pos) σ S rNon := ge_of pe_non (go_c rfl)
/-- arguments -/
theorem gA_nil : GA X [] σ S [] := ⟨_, pa_nil, ga_nil⟩
theorem gA_cons (h : GE X e σ S r) (ht : GA X es σ S rs) (hs : starEach (e :: es) X.env = (false, eval e X.env) :: starEach es X.env := by rfl) : GA X (e :: es) σ S (r :: rs) :=
  let ⟨_, p, g⟩ := ht
  ⟨_, pa_cons wE.pe p hs, ga_cons h g⟩
/-! numbers -/
theorem opd_I0 {g : Int → Int → Int} {i j : Int} : OpD (rI0 fun i j => .int (g i j)) (dt i) (dt j) (dt (g i j)) S := fun S1 H1 x y _ b hx hy Q q => ⟨i, j, hx, hy, q _ S1 H1 (Fp.refl b) rfl⟩
theorem opd_I0b {g : Int → Int → Bool} {i j : Int} : OpD (rI0 fun i j => .bl (g i j)) (dt i) (dt j) (dt (g i j)) S := fun S1 H1 x y _ b hx hy Q q => ⟨i, j, hx, hy, q _ S1 H1 (Fp.refl b) rfl⟩
theorem opd_I {C : Int → Int → Prop} {g : Int → Int → Int} {i j : Int} (hc : C i j) : OpD (rI C fun i j => .int (g i j)) (dt i) (dt j) (dt (g i j)) S := fun S1 H1 x y _ b hx hy Q q => ⟨i, j, hx, hy, hc, q _ S1 H1 (Fp.refl b) rfl⟩
variable {i j : Int}
theorem ge_add (ha : GE X a σ S (dt i)) (hb : GE X b σ S (dt j)) : GE X (.BinOp a .Add b pos) σ S (dt (i + j)) := ge_of (pe_op op_add wE.pe wE.pe) (go_op ha hb opd_I0)
theorem ge_sub (ha : GE X a σ S (dt i)) (hb : GE X b σ S (dt j)) : GE X (.BinOp a .Sub b pos) σ S (dt (i - j)) := ge_of (pe_op op_sub wE.pe wE.pe) (go_op ha hb opd_I0)
theorem ge_mul (ha : GE X a σ S (dt i)) (hb : GE X b σ S (dt j)) (hc : CMul i j) : GE X (.BinOp a .Mult b pos) σ S (dt (i * j)) := ge_of (pe_op op_mul wE.pe wE.pe) (go_op ha hb (opd_I hc))
theorem ge_fdiv (ha : GE X a σ S (dt i)) (hb : GE X b σ S (dt j)) (hc : CDivN i j) : GE X (.BinOp a .FloorDiv b pos) σ S (dt (i.fdiv j)) := ge_of (pe_op op_fdivN wE.pe wE.pe) (go_op ha hb (opd_I hc))
theorem ge_mod (ha : GE X a σ S (dt i)) (hb : GE X b σ S (dt j)) (hc : j ≠ 0) : GE X (.BinOp a .Mod b pos) σ S (dt (i.fmod j)) := ge_of (pe_op op_modN wE.pe wE.pe) (go_op ha hb (opd_I (C := fun _ j => j ≠ 0) hc))
theorem ge_pow (ha : GE X a σ S (dt i)) (hb : GE X b σ S (dt j)) (hc : CPow i j) : GE X (.BinOp a .Pow b pos) σ S (dt (i ^ j.toNat)) := ge_of (pe_op op_pow wE.pe wE.pe) (go_op ha hb (opd_I hc))
theorem ge_band (ha : GE X a σ S (dt i)) (hb : GE X b σ S (dt j)) : GE X (.BinOp a .BitAnd b pos) σ S (dt (Builtin.bitAnd i j)) := ge_of (pe_op op_and wE.pe wE.pe) (go_op ha hb opd_I0)
/-! comparisons: as values, as tests -/
theorem ge_cmp {op : CmpOp} {o : R2} (ho : OpR X (compareOp op) o) (ha : GE X a σ S r1) (hb : GE X b σ S r2) (hd : OpD o r1 r2 r S) (hm : behindInMarks op b = false) : GE X (.Compare a [op] [b] pos) σ S r :=
  ge_of (pe_cmpR ho wE.pe wE.pe hm) (go_op ha hb hd)
theorem gt_cmp {op : CmpOp} {o : R2} {k : Bool} (ho : OpR X (compareOp op) o) (ha : GE X a σ S r1) (hb : GE X b σ S r2) (hd : OpD o r1 r2 (dt k) S) (hm : behindInMarks op b = false) : GT X (.Compare a [op] [b] pos) σ S k :=
  gt_of (pt_cmpR ho wE.pe wE.pe hm) fun S1 H1 c d Q q => go_op ha hb hd S1 H1 c d _ fun v S2 H2 f h => ⟨k, h, q S2 H2 f⟩
variable {α : Type} [Rep α] {x y : α}
theorem opd_eq [DecidableEq α] (hz : Rep.dep α ≤ 64 := by decide) : OpD (rEqD X.K) (dt x) (dt y) (dt (decide (x = y))) S := fun S1 H1 v w _ b hx hy Q q =>
  ⟨Rep.enc x, Rep.enc y, Rep.dp (Rep.mono b hx), Rep.dp (Rep.mono b hy), Rep.shaped hz hx, Rep.shaped hz hy, q _ S1 H1 (Fp.refl b) (congrArg V.bl (Rep.eqd x y))⟩
theorem opd_ne [DecidableEq α] (hz : Rep.dep α ≤ 64 := by decide) : OpD (rNeD X.K) (dt x) (dt y) (dt (!decide (x = y))) S := fun S1 H1 v w _ b hx hy Q q =>
  ⟨Rep.enc x, Rep.enc y, Rep.dp (Rep.mono b hx), Rep.dp (Rep.mono b hy), Rep.shaped hz hx, Rep.shaped hz hy, q _ S1 H1 (Fp.refl b) (congrArg V.bl (congrArg not (Rep.eqd x y)))⟩
theorem any_mem [DecidableEq α] (ys : List α) : ((ys.map Rep.enc).any fun z => PyData.eqv z (Rep.enc x)) = decide (x ∈ ys) := by
  rw [List.any_map]
  have e : (fun z => PyData.eqv z (Rep.enc x)) ∘ (Rep.enc : α → PyData) = fun y => decide (y = x) := by
    funext y
    exact Rep.eqd y x
  rw [e]
  induction ys with
  | nil => rfl
  | cons y ys ih =>
    rw [List.any_cons, ih]
    by_cases h : y = x
    · subst h; simp
    · have h2 : x ≠ y := fun z => h z.symm
      simp [h, h2]
theorem opd_in [DecidableEq α] {ys : List α} (hz : Rep.dep α ≤ 32 := by decide) : OpD (rInD X.K) (dt x) (dt ys) (dt (decide (x ∈ ys))) S := fun S1 H1 v w _ b hx hy Q q =>
  ⟨Rep.enc x, ys.map Rep.enc, Rep.dp (Rep.mono b hx), Rep.dp (Rep.mono b hy), Rep.shaped (Nat.le_trans hz (by decide)) hx, Rep.shaped (Nat.le_trans (Nat.succ_le_succ hz) (by decide)) hy, q _ S1 H1 (Fp.refl b) (congrArg V.bl (any_mem ys))⟩
theorem opd_notIn [DecidableEq α] {ys : List α} (hz : Rep.dep α ≤ 32 := by decide) : OpD (rNotInD X.K) (dt x) (dt ys) (dt (!decide (x ∈ ys))) S := fun S1 H1 v w _ b hx hy Q q =>
  ⟨Rep.enc x, ys.map Rep.enc, Rep.dp (Rep.mono b hx), Rep.dp (Rep.mono b hy), Rep.shaped (Nat.le_trans hz (by decide)) hx, Rep.shaped (Nat.le_trans (Nat.succ_le_succ hz) (by decide)) hy, q _ S1 H1 (Fp.refl b) (congrArg V.bl (congrArg not (any_mem ys)))⟩
variable [DecidableEq α] {ys : List α} {k : Nat}
theorem ge_eq (hr : Room k X.A) (ha : GE X a σ S (dt x)) (hb : GE X b σ S (dt y)) (hz : Rep.dep α ≤ 64 := by decide) : GE X (.Compare a [.Eq] [b] pos) σ S (dt (decide (x = y))) := ge_cmp (op_eqD hr.units) ha hb (opd_eq hz) (nomark _)
theorem gt_eq (hr : Room k X.A) (ha : GE X a σ S (dt x)) (hb : GE X b σ S (dt y)) (hz : Rep.dep α ≤ 64 := by decide) : GT X (.Compare a [.Eq] [b] pos) σ S (decide (x = y)) := gt_cmp (op_eqD hr.units) ha hb (opd_eq hz) (nomark _)
theorem ge_ne (hr : Room k X.A) (ha : GE X a σ S (dt x)) (hb : GE X b σ S (dt y)) (hz : Rep.dep α ≤ 64 := by decide) : GE X (.Compare a [.NotEq] [b] pos) σ S (dt (!decide (x = y))) := ge_cmp (op_neD hr.units) ha hb (opd_ne hz) (nomark _)
theorem gt_ne (hr : Room k X.A) (ha : GE X a σ S (dt x)) (hb : GE X b σ S (dt y)) (hz : Rep.dep α ≤ 64 := by decide) : GT X (.Compare a [.NotEq] [b] pos) σ S (!decide (x = y)) := gt_cmp (op_neD hr.units) ha hb (opd_ne hz) (nomark _)
theorem units65 (hr : Room k X.A) : X.A.units + 65 < cLine := by have := hr.un; omega
theorem ge_in (hr : Room k X.A) (ha : GE X a σ S (dt x)) (hb : GE X b σ S (dt ys)) (hm : behindInMarks .In b = false := by rfl) (hz : Rep.dep α ≤ 32 := by decide) : GE X (.Compare a [.In] [b] pos) σ S (dt (decide (x ∈ ys))) := ge_cmp (op_inD (units65 hr)) ha hb (opd_in hz) hm
theorem gt_in (hr : Room k X.A) (ha : GE X a σ S (dt x)) (hb : GE X b σ S (dt ys)) (hm : behindInMarks .In b = false := by rfl) (hz : Rep.dep α ≤ 32 := by decide) : GT X (.Compare a [.In] [b] pos) σ S (decide (x ∈ ys)) := gt_cmp (op_inD (units65 hr)) ha hb (opd_in hz) hm
theorem ge_ni (hr : Room k X.A) (ha : GE X a σ S (dt x)) (hb : GE X b σ S (dt ys)) (hm : behindInMarks .NotIn b = false := by rfl) (hz : Rep.dep α ≤ 32 := by decide) : GE X (.Compare a [.NotIn] [b] pos) σ S (dt (!decide (x ∈ ys))) := ge_cmp (op_notInD (units65 hr)) ha hb (opd_notIn hz) hm
theorem gt_ni (hr : Room k X.A) (ha : GE X a σ S (dt x)) (hb : GE X b σ S (dt ys)) (hm : behindInMarks .NotIn b = false := by rfl) (hz : Rep.dep α ≤ 32 := by decide) : GT X (.Compare a [.NotIn] [b] pos) σ S (!decide (x ∈ ys)) := gt_cmp (op_notInD (units65 hr)) ha hb (opd_notIn hz) hm
theorem gt_lt (ha : GE X a σ S (dt i)) (hb : GE X b σ S (dt j)) : GT X (.Compare a [.Lt] [b] pos) σ S (decide (i < j)) := gt_cmp op_lt ha hb opd_I0b (nomark _)
theorem gt_gt (ha : GE X a σ S (dt i)) (hb : GE X b σ S (dt j)) : GT X (.Compare a [.Gt] [b] pos) σ S (decide (j < i)) := gt_cmp op_gt ha hb (opd_I0b (g := fun i j => decide (j < i))) (nomark _)
end
end Cp
namespace Cp
open PySem PySem.Spec PyProof.Rows L2
section
variable {X : Cx} {σ : L2.St} {S : Hp} {e a b c : Expr} {es rest : List Expr} {r r1 r2 : Rl} {rs : List Rl} {pos : Pos} {k k1 k2 : Bool}
/-! ### truth -/
theorem gt_val (h : GE X e σ S (dt k)) (he : ∀ whole, isTrue e X.env whole = (do let v ← whole; standAt e.pos; holding [v] (truthy v)) := by intro _; rfl) : GT X e σ S k :=
  gt_of (pt_val wE.pe he) fun S1 H1 c d Q q => h S1 H1 c d _ fun v S2 H2 f hv => ⟨k, hv, q S2 H2 f⟩
/-- an int's truth -/
theorem gt_int {i : Int} (h : GE X e σ S (dt i)) (he : ∀ whole, isTrue e X.env whole = (do let v ← whole; standAt e.pos; holding [v] (truthy v)) := by intro _; rfl) : GT X e σ S (i != 0) :=
  gt_of (pt_truth wE.pe he) fun S1 H1 c d Q q => h S1 H1 c d _ fun v S2 H2 f hv => ⟨_, by have hv : v = .int i := hv; subst hv; rfl, q S2 H2 f⟩
theorem gw_and1 (h : GT X a σ S k) : GW X (.BoolOp .And [a] pos) σ S k := gw_of (pw_and1 wT.pt) h
theorem gw_or1 (h : GT X a σ S k) : GW X (.BoolOp .Or [a] pos) σ S k := gw_of (pw_or1 wT.pt) h
theorem gw_and (h : GT X a σ S k1) (h2 : k1 = true → GW X (.BoolOp .And (b :: rest) pos) σ S k2) : GW X (.BoolOp .And (a :: b :: rest) pos) σ S (k1 && k2) :=
  gw_of (pw_and wT.pt wW.pw) fun S1 H1 c d Q q => h S1 H1 c d _ fun S2 H2 f => by
    cases k1 with
    | true => exact iteT (h2 rfl S2 H2 (c.trans f.ss) f.sh Q fun S3 H3 f3 => q S3 H3 (f.trans f3))
    | false => exact iteF (q S2 H2 f)
theorem gw_or (h : GT X a σ S k1) (h2 : k1 = false → GW X (.BoolOp .Or (b :: rest) pos) σ S k2) : GW X (.BoolOp .Or (a :: b :: rest) pos) σ S (k1 || k2) :=
  gw_of (pw_or wT.pt wW.pw) fun S1 H1 c d Q q => h S1 H1 c d _ fun S2 H2 f => by
    cases k1 with
    | true => exact iteT (q S2 H2 f)
    | false => exact iteF (h2 rfl S2 H2 (c.trans f.ss) f.sh Q fun S3 H3 f3 => q S3 H3 (f.trans f3))
theorem gt_not (h : GT X a σ S k) : GT X (.UnaryOp .Not a pos) σ S (!k) := gt_of (pt_not wT.pt) fun S1 H1 c d Q q => h S1 H1 c d _ fun S2 H2 f => q S2 H2 f
theorem ge_one {op} (h : GE X a σ S r) : GE X (.BoolOp op [a] pos) σ S r := ge_of (pe_one wE.pe) h
theorem ge_and (h : GE X a σ S (dt k1)) (h2 : k1 = true → GE X (.BoolOp .And (b :: rest) pos) σ S (dt k2)) : GE X (.BoolOp .And (a :: b :: rest) pos) σ S (dt (k1 && k2)) :=
  ge_of (pe_and wE.pe wE.pe) fun S1 H1 c d Q q => h S1 H1 c d _ fun v S2 H2 f hv => ⟨k1, hv, by
    cases k1 with
    | true => exact iteT (h2 rfl S2 H2 (c.trans f.ss) f.sh Q fun v S3 H3 f3 hv => q v S3 H3 (f.trans f3) hv)
    | false => exact iteF (q _ S2 H2 f rfl)⟩
theorem ge_not (h : GE X a σ S (dt k)) : GE X (.UnaryOp .Not a pos) σ S (dt (!k)) :=
  ge_of (pe_not wE.pe) fun S1 H1 c d Q q => h S1 H1 c d _ fun v S2 H2 f hv => ⟨k, hv, q _ S2 H2 f rfl⟩
theorem ge_ifExp (h : GT X c σ S k) (h1 : k = true → GE X a σ S r) (h2 : k = false → GE X b σ S r) : GE X (.IfExp c a b pos) σ S r :=
  ge_of (pe_ifExp wT.pt wE.pe wE.pe) fun S1 H1 c d Q q => h S1 H1 c d _ fun S2 H2 f => by
    cases k with
    | true => exact iteT (h1 rfl S2 H2 (c.trans f.ss) f.sh Q fun v S3 H3 f3 hv => q v S3 H3 (f.trans f3) hv)
    | false => exact iteF (h2 rfl S2 H2 (c.trans f.ss) f.sh Q fun v S3 H3 f3 hv => q v S3 H3 (f.trans f3) hv)
/-! ### displays -/
variable {α β : Type} [Rep α] [Rep β]
theorem all2_reps {S : Hp} : ∀ {xs : List α} {vs : List V}, All2 S (xs.map dt) vs → Reps S vs xs
  | [], vs, h => by have h : vs = [] := h; subst h; exact .nil
  | x :: xs, vs, h => by
    obtain ⟨v, ws, rfl, h1, h2⟩ := h
    exact .cons h1 (all2_reps h2)
theorem go_lst {ta : TA} {xs : List α} (h : GoA ta σ S (xs.map dt)) (hz : xs.length ≤ most) : Go (tLst ta) σ S (dt xs) := fun S1 H1 c d Q q =>
  h S1 H1 c d _ fun vs S2 H2 f hv => by
    have hr := all2_reps hv
    refine ⟨small_line (by rw [hr.len]; exact hz), fun p hp => q _ (upd S2 p (.lst vs)) _ (f.trans (Fp.new f.sh hp)) ⟨p, vs, rfl, upd_same, hz, ?_⟩⟩
    exact hr.mono (Fp.new (o := .lst vs) f.sh hp).ss
theorem ge_lst {xs : List α} (h : GA X es σ S (xs.map dt)) (hz : xs.length ≤ most := by show _ ≤ 4000; simp) : GE X (.List es pos) σ S (dt xs) :=
  let ⟨_, p, g⟩ := h
  ge_of (pe_lst p) (go_lst g hz)
theorem ge_nil : GE X (.List [] pos) σ S (dt ([] : List α)) := ge_lst (xs := ([] : List α)) gA_nil (Nat.zero_le _)
theorem ge_pair {x : α} {y : β} {x1} (h : GA X es σ S [dt x, dt y]) : GE X (.Tuple es x1 pos) σ S (dt (x, y)) :=
  let ⟨_, p, g⟩ := h
  ge_of (pe_tup p) fun S1 H1 c d Q q => g S1 H1 c d _ fun vs S2 H2 f hv => by
    obtain ⟨v1, _, rfl, h1, v2, _, rfl, h2, rfl⟩ := hv
    refine ⟨(by show 2 ≤ sizeLine; decide), fun p hp => ?_⟩
    have n := Fp.new (o := .tup [v1, v2]) f.sh hp
    exact q _ _ _ (f.trans n) ⟨p, v1, v2, rfl, upd_same, Rep.mono n.ss h1, Rep.mono n.ss h2⟩
theorem ge_ln {w : Str} {lot : List Str} {x : Str} {x1} (h : GA X es σ S [dt w, dt lot, dt x]) : GE X (.Tuple es x1 pos) σ S (dt (⟨w, lot, x⟩ : Ln)) :=
  let ⟨_, p, g⟩ := h
  ge_of (pe_tup p) fun S1 H1 c d Q q => g S1 H1 c d _ fun vs S2 H2 f hv => by
    obtain ⟨v1, _, rfl, h1, v2, _, rfl, h2, v3, _, rfl, h3, rfl⟩ := hv
    refine ⟨(by show 3 ≤ sizeLine; decide), fun p hp => ?_⟩
    have n := Fp.new (o := .tup [v1, v2, v3]) f.sh hp
    exact q _ _ _ (f.trans n) ⟨p, v1, v2, v3, rfl, upd_same, Rep.mono n.ss h1, Rep.mono n.ss h2, Rep.mono n.ss h3⟩
/-- [*xs, y] -/
theorem ge_lstar {xs : List α} {y : α} {p1 : Pos} (ha : GE X a σ S (dt xs)) (hb : GE X b σ S (dt y)) (hz : xs.length < most)
    (hs : starEach [.Starred a p1, b] X.env = (true, eval a X.env) :: starEach [b] X.env := by rfl) (hs2 : starEach [b] X.env = (false, eval b X.env) :: starEach [] X.env := by rfl) : GE X (.List [.Starred a p1, b] pos) σ S (dt (xs ++ [y])) :=
  ge_of (pe_lst (StX.pa_star wE.pe (pa_cons wE.pe pa_nil hs2) hs)) fun S1 H1 c d Q q => ha S1 H1 c d _ fun v S2 H2 f hv => by
    obtain ⟨p, vs, rfl, hp, hl, hr⟩ := hv
    refine ⟨p, vs, rfl, .inr (SqL.of (f.sh _ _ hp)), ?_⟩
    refine hb S2 H2 (c.trans f.ss) f.sh _ fun w S3 H3 f3 hw => ?_
    have hr3 := (hr.mono f3.ss).snoc hw
    refine ⟨small_line (by rw [hr3.len, List.length_append]; exact hz), fun l hl => ?_⟩
    have n := Fp.new (o := .lst (vs ++ [w])) f3.sh hl
    exact q _ _ _ ((f.trans f3).trans n) ⟨l, _, rfl, upd_same, by rw [List.length_append]; exact hz, hr3.mono n.ss⟩
/-! ### lists: +, slices, places, len, list(), tuple() -/
theorem opd_cat {xs ys : List α} (hz : xs.length + ys.length ≤ most) : OpD rCat (dt xs) (dt ys) (dt (xs ++ ys)) S := fun S1 H1 x y _ d hx hy Q q => by
  obtain ⟨p, vs, rfl, hp, _, hr⟩ := hx
  obtain ⟨p', ws, rfl, hp', _, hr'⟩ := hy
  refine ⟨p, p', vs, ws, rfl, rfl, d _ _ hp, d _ _ hp', small_line (by rw [hr.len, hr'.len]; exact hz), fun l hl => ?_⟩
  have n := Fp.new (o := .lst (vs ++ ws)) d hl
  exact q _ _ _ n ⟨l, _, rfl, upd_same, by rw [List.length_append]; exact hz, (hr.append hr').mono n.ss⟩
theorem ge_cat {xs ys : List α} (ha : GE X a σ S (dt xs)) (hb : GE X b σ S (dt ys)) (hz : xs.length + ys.length ≤ most) : GE X (.BinOp a .Add b pos) σ S (dt (xs ++ ys)) := ge_of (pe_op op_cat wE.pe wE.pe) (go_op ha hb (opd_cat hz))
theorem ge_rev {xs : List α} {k : Nat} {p1 p2 p3 : Pos} (ha : GE X a σ S (dt xs)) : GE X (.Subscript a (.Slice none none (some (.UnaryOp .USub (.Constant (.int 1) k p1) p2)) p3) pos) σ S (dt xs.reverse) :=
  ge_of (pe_revL wE.pe) fun S1 H1 c d Q q => ha S1 H1 c d _ fun v S2 H2 f hv => by
    obtain ⟨p, vs, rfl, hp, hl, hr⟩ := hv
    refine ⟨p, vs, rfl, SqL.of (f.sh _ _ hp), fun l hn => ?_⟩
    have n := Fp.new (o := .lst vs.reverse) f.sh hn
    exact q _ _ _ (f.trans n) ⟨l, _, rfl, upd_same, by rw [List.length_reverse]; exact hl, hr.reverse.mono n.ss⟩
/-- xs[:j], j at least 0 -/
theorem cut_to (vs : List V) (j : Nat) : cutV vs none (some (j : Int)) = vs.take j := by
  unfold cutV
  rw [HT.sIx_none, HT.sIx_nat, List.drop_zero, Nat.sub_zero]
  by_cases h : j ≤ vs.length
  · rw [Nat.min_eq_left h]
  · rw [Nat.min_eq_right (by omega), List.take_length, List.take_of_length_le (by omega)]
theorem ge_to {xs : List α} {j : Nat} {p2 : Pos} (ha : GE X a σ S (dt xs)) (hb : GE X b σ S (dt (j : Int))) : GE X (.Subscript a (.Slice none (some b) none p2) pos) σ S (dt (xs.take j)) :=
  ge_of (pe_slice sl_list wE.pe po_none (po_some wE.pe)) fun S1 H1 c d Q q => ha S1 H1 c d _ fun v S2 H2 f hv => hb S2 H2 (c.trans f.ss) f.sh _ fun w S3 H3 f3 hw => by
    obtain ⟨p, vs, rfl, hp, hl, hr⟩ := hv
    refine ⟨_, hw, p, vs, rfl, SqL.of (f3.sh _ _ (f3.ss _ _ hp)), fun l hn => ?_⟩
    have n := Fp.new (o := .lst (cutV vs none (some (j : Int)))) f3.sh hn
    refine q _ _ _ ((f.trans f3).trans n) ⟨l, _, rfl, upd_same, Nat.le_trans (by rw [List.length_take]; exact Nat.min_le_right _ _) hl, ?_⟩
    have h := (hr.take j).mono (f3.ss.trans n.ss)
    rw [← cut_to] at h
    exact h
/-- xs[1:] -/
theorem cut_one (vs : List V) : cutV vs (some 1) none = vs.drop 1 := by
  unfold cutV
  rw [show HT.sIx vs.length 0 (some 1) = min 1 vs.length from HT.sIx_nat vs.length 0 1, HT.sIx_none]
  cases vs with
  | nil => rfl
  | cons x r =>
    rw [show min 1 (x :: r).length = 1 by rw [List.length_cons]; omega]
    exact List.take_of_length_le (by rw [List.length_drop]; exact Nat.le_refl _)
theorem ge_tail {xs : List α} {j} {p1 p2 : Pos} (ha : GE X a σ S (dt xs)) : GE X (.Subscript a (.Slice (some (.Constant (.int 1) j p1)) none none p2) pos) σ S (dt (xs.drop 1)) :=
  ge_of (pe_slice sl_list wE.pe (po_some pe_int) po_none) fun S1 H1 c d Q q => ha S1 H1 c d _ fun v S2 H2 f hv => by
    obtain ⟨p, vs, rfl, hp, hl, hr⟩ := hv
    refine ⟨_, rfl, p, vs, rfl, SqL.of (f.sh _ _ hp), fun l hn => ?_⟩
    have n := Fp.new (o := .lst (cutV vs (some 1) none)) f.sh hn
    refine q _ _ _ (f.trans n) ⟨l, _, rfl, upd_same, Nat.le_trans (by rw [List.length_drop]; exact Nat.sub_le _ _) hl, ?_⟩
    have h := (hr.drop 1).mono n.ss
    rw [← cut_one vs] at h
    exact h
theorem opd_ix {xs : List α} {j : Nat} {x : α} (hx : xs[j]? = some x) : OpD (rIxL X.K) (dt xs) (dt (j : Int)) (dt x) S := fun S1 H1 v w _ d hv hw Q q => by
  obtain ⟨p, vs, rfl, hp, _, hr⟩ := hv
  obtain ⟨y, hy, hr2⟩ := hr.at hx
  exact ⟨p, vs, (j : Int), y, rfl, hw, SqL.of (d _ _ hp), atI_nat hy, q _ S1 H1 (Fp.refl d) hr2⟩
theorem ge_ix {xs : List α} {j : Nat} {x : α} (ha : GE X a σ S (dt xs)) (hb : GE X b σ S (dt (j : Int))) (hx : xs[j]? = some x) (hs : PlainIx b := by exact fun _ _ => rfl) : GE X (.Subscript a b pos) σ S (dt x) :=
  ge_of (pe_ix ix_list wE.pe wE.pe hs) (go_op ha hb (opd_ix hx))
theorem cad_len {xs : List α} : CaD (fun vs H Q => ∃ p ys, vs = [.ref p] ∧ (SqL X.K H p ys ∨ SqT X.K H p ys) ∧ Q (.int ys.length) H) [dt xs] (dt (xs.length : Int)) S := fun S1 H1 vs _ d hv Q q => by
  obtain ⟨v, _, rfl, ⟨p, ws, rfl, hp, _, hr⟩, rfl⟩ := hv
  exact ⟨p, ws, rfl, .inl (SqL.of (d _ _ hp)), q _ S1 H1 (Fp.refl d) (by rw [hr.len]; rfl)⟩
theorem ge_len {xs : List α} {p : Pos} (hm : X.mg "len" = none) (h : GE X e σ S (dt xs)) (hg : Gl X "len" := by rfl) (hs : starEach [e] X.env = (false, eval e X.env) :: starEach [] X.env := by rfl) (hpl : (backTo pos (starEach [] X.env)).any (·.1) = false := by rfl) :
    GE X (.Call (.Name "len" p) [e] [] pos) σ S (dt (xs.length : Int)) :=
  ge_of (pe_callB call_len_seq hg hm boot_len (pa_cons wE.pe pa_nil hs) (by decide) (by decide) hs hpl) (go_cb (ga_cons h ga_nil) cad_len)
theorem boot_list' : bootBuiltins "list" = some (.type "list") := by decide +kernel
theorem boot_tuple' : bootBuiltins "tuple" = some (.type "tuple") := by decide +kernel
theorem boot_sorted' : bootBuiltins "sorted" = some (.builtin "sorted") := by decide +kernel
theorem boot_isinstance' : bootBuiltins "isinstance" = some (.builtin "isinstance") := by decide +kernel
theorem boot_sum' : bootBuiltins "sum" = some (.builtin "sum") := by decide +kernel
theorem cad_list {xs : List α} : CaD (fun vs H Q => ∃ p ys, vs = [.ref p] ∧ (SqL X.K H p ys ∨ SqT X.K H p ys) ∧ ∀ l, H l = none → Q (.ref l) (upd H l (.lst ys))) [dt xs] (dt xs) S := fun S1 H1 vs _ d hv Q q => by
  obtain ⟨v, _, rfl, ⟨p, ws, rfl, hp, hl, hr⟩, rfl⟩ := hv
  refine ⟨p, ws, rfl, .inl (SqL.of (d _ _ hp)), fun l hn => ?_⟩
  have n := Fp.new (o := .lst ws) d hn
  exact q _ _ _ n ⟨l, _, rfl, upd_same, hl, hr.mono n.ss⟩
theorem cad_listT {xs : List α} : CaD (fun vs H Q => ∃ p ys, vs = [.ref p] ∧ (SqL X.K H p ys ∨ SqT X.K H p ys) ∧ ∀ l, H l = none → Q (.ref l) (upd H l (.lst ys))) [dt (⟨xs⟩ : Tp α)] (dt xs) S := fun S1 H1 vs _ d hv Q q => by
  obtain ⟨v, _, rfl, ⟨p, ws, rfl, hp, hl, hr⟩, rfl⟩ := hv
  refine ⟨p, ws, rfl, .inr (SqT.of (d _ _ hp)), fun l hn => ?_⟩
  have n := Fp.new (o := .lst ws) d hn
  exact q _ _ _ n ⟨l, _, rfl, upd_same, hl, hr.mono n.ss⟩
theorem cad_tuple {xs : List α} : CaD (fun vs H Q => ∃ p ys, vs = [.ref p] ∧ ((SqL X.K H p ys ∧ ∀ l, H l = none → Q (.ref l) (upd H l (.tup ys))) ∨ (SqT X.K H p ys ∧ Q (.ref p) H))) [dt xs] (dt (⟨xs⟩ : Tp α)) S := fun S1 H1 vs _ d hv Q q => by
  obtain ⟨v, _, rfl, ⟨p, ws, rfl, hp, hl, hr⟩, rfl⟩ := hv
  refine ⟨p, ws, rfl, .inl ⟨SqL.of (d _ _ hp), fun l hn => ?_⟩⟩
  have n := Fp.new (o := .tup ws) d hn
  exact q _ _ _ n ⟨l, _, rfl, upd_same, hl, hr.mono n.ss⟩
section
variable {p : Pos} (hs : starEach [e] X.env = (false, eval e X.env) :: starEach [] X.env := by rfl) (hpl : (backTo pos (starEach [] X.env)).any (·.1) = false := by rfl)
theorem ge_list {xs : List α} (hm : X.mg "list" = none) (h : GE X e σ S (dt xs)) (hg : Gl X "list" := by rfl) (hs : starEach [e] X.env = (false, eval e X.env) :: starEach [] X.env := by rfl) (hpl : (backTo pos (starEach [] X.env)).any (·.1) = false := by rfl) : GE X (.Call (.Name "list" p) [e] [] pos) σ S (dt xs) :=
  ge_of (pe_callTy call_list_of hg hm boot_list' (pa_cons wE.pe pa_nil hs) (by decide) (by decide) hs hpl) (go_cb (ga_cons h ga_nil) cad_list)
theorem ge_listT {xs : List α} (hm : X.mg "list" = none) (h : GE X e σ S (dt (⟨xs⟩ : Tp α))) (hg : Gl X "list" := by rfl) (hs : starEach [e] X.env = (false, eval e X.env) :: starEach [] X.env := by rfl) (hpl : (backTo pos (starEach [] X.env)).any (·.1) = false := by rfl) : GE X (.Call (.Name "list" p) [e] [] pos) σ S (dt xs) :=
  ge_of (pe_callTy call_list_of hg hm boot_list' (pa_cons wE.pe pa_nil hs) (by decide) (by decide) hs hpl) (go_cb (ga_cons h ga_nil) cad_listT)
theorem ge_tuple {xs : List α} (hm : X.mg "tuple" = none) (h : GE X e σ S (dt xs)) (hg : Gl X "tuple" := by rfl) (hs : starEach [e] X.env = (false, eval e X.env) :: starEach [] X.env := by rfl) (hpl : (backTo pos (starEach [] X.env)).any (·.1) = false := by rfl) : GE X (.Call (.Name "tuple" p) [e] [] pos) σ S (dt (⟨xs⟩ : Tp α)) :=
  ge_of (pe_callTy call_tuple_of hg hm boot_tuple' (pa_cons wE.pe pa_nil hs) (by decide) (by decide) hs hpl) (go_cb (ga_cons h ga_nil) cad_tuple)
end
/-! ### texts -/
theorem ge_scat {x y : Str} (ha : GE X a σ S (dt x)) (hb : GE X b σ S (dt y)) (hz : x.length + y.length ≤ most) (ho : sOk (x ++ y)) : GE X (.BinOp a .Add b pos) σ S (dt (x ++ y)) :=
  ge_of (pe_op op_add_str wE.pe wE.pe) (go_op ha hb fun S1 H1 v w _ d hv hw Q q => ⟨x, y, hv.1, hw.1, small_line hz, q _ S1 H1 (Fp.refl d) ⟨rfl, ho⟩⟩)
theorem ge_slen {x : Str} {p : Pos} (hm : X.mg "len" = none) (h : GE X e σ S (dt x)) (hg : Gl X "len" := by rfl) (hs : starEach [e] X.env = (false, eval e X.env) :: starEach [] X.env := by rfl) (hpl : (backTo pos (starEach [] X.env)).any (·.1) = false := by rfl) :
    GE X (.Call (.Name "len" p) [e] [] pos) σ S (dt (x.length : Int)) :=
  ge_of (pe_callB call_len hg hm boot_len (pa_cons wE.pe pa_nil hs) (by decide) (by decide) hs hpl) (go_cb (ga_cons h ga_nil) fun S1 H1 vs _ d hv Q q => by
    obtain ⟨v, _, rfl, ⟨rfl, hz⟩, rfl⟩ := hv
    exact ⟨_, x.length, rfl, ⟨small_line hz.2, rfl⟩, q _ S1 H1 (Fp.refl d) rfl⟩)
end
end Cp
namespace Cp
open PySem PySem.Spec PyProof.Rows L2
open PySem.W (EachIs)
/-! ### sorted -/
section
variable {α : Type} [Rep α]
/-- Python's order of data -/
def leD (a b : α) : Bool := PySem.W.dataLe false (Rep.enc : α → PyData) a b
/-- THE sorted list -/
def srt (xs : List α) : List α := xs.mergeSort leD
theorem srt_perm (xs : List α) : (srt xs).Perm xs := List.mergeSort_perm xs _
theorem srt_len (xs : List α) : (srt xs).length = xs.length := (srt_perm xs).length_eq
/-- any two can be compared; all tuples with an item at least, or none a tuple -/
class Srt (α : Type) [Rep α] : Prop where
  al : ∀ a b : α, PySem.W.alike (Rep.enc a) (Rep.enc b) = true
  ok : (∀ a : α, ∃ x r, Rep.enc a = .tuple (x :: r)) ∨ ∀ a : α, Rep.enc a ≠ .none ∧ ∀ xs, Rep.enc a ≠ .tuple xs
theorem alike_all (h : ∀ a b : α, PySem.W.alike (Rep.enc a) (Rep.enc b) = true) : ∀ xs ys : List α, PySem.W.alikeAll (xs.map Rep.enc) (ys.map Rep.enc) = true
  | [], _ => by rw [List.map_nil, PySem.W.alikeAll]
  | _ :: _, [] => by rw [List.map_cons, List.map_nil, PySem.W.alikeAll]
  | x :: xs, y :: ys => by rw [List.map_cons, List.map_cons, PySem.W.alikeAll, h x y, alike_all h xs ys]; rfl
theorem alike_str (a b : Str) : PySem.W.alike (Rep.enc a) (Rep.enc b) = true := by show PySem.W.alike (.str a) (.str b) = true; rw [PySem.W.alike]
theorem alike_list (h : ∀ a b : α, PySem.W.alike (Rep.enc a) (Rep.enc b) = true) (a b : List α) : PySem.W.alike (Rep.enc a) (Rep.enc b) = true := by
  show PySem.W.alike (.list (a.map Rep.enc)) (.list (b.map Rep.enc)) = true
  rw [PySem.W.alike]; exact alike_all h a b
theorem alike_tp (h : ∀ a b : α, PySem.W.alike (Rep.enc a) (Rep.enc b) = true) (a b : Tp α) : PySem.W.alike (Rep.enc a) (Rep.enc b) = true := by
  show PySem.W.alike (.tuple (a.l.map Rep.enc)) (.tuple (b.l.map Rep.enc)) = true
  rw [PySem.W.alike]; exact alike_all h a.l b.l
theorem alike_ln (a b : Ln) : PySem.W.alike (Rep.enc a) (Rep.enc b) = true := by
  show PySem.W.alike (.tuple [Rep.enc a.word, Rep.enc a.lot, Rep.enc a.who]) (.tuple [Rep.enc b.word, Rep.enc b.lot, Rep.enc b.who]) = true
  simp only [PySem.W.alike, PySem.W.alikeAll, alike_str, alike_list alike_str, Bool.and_self]
instance : Srt Str := ⟨alike_str, .inr fun a => ⟨(fun z => nomatch (show PyData.str a = PyData.none from z)), fun xs z => nomatch (show PyData.str a = PyData.tuple xs from z)⟩⟩
instance [Srt α] : Srt (List α) := ⟨alike_list Srt.al, .inr fun a => ⟨(fun z => nomatch (show PyData.list (a.map Rep.enc) = PyData.none from z)), fun xs z => nomatch (show PyData.list (a.map Rep.enc) = PyData.tuple xs from z)⟩⟩
instance : Srt Ln := ⟨alike_ln, .inl fun a => ⟨_, _, rfl⟩⟩
theorem each_reps {H : Hp} {h : Heap} {K : PySem.W.Frag} {vs : List V} {us : List Value} {xs : List α} (r : Vals vs us) (q : Reps H vs xs) (hd : ∀ v u (x : α), RelV v u → Rep.rep H v x → ∃ as, Reads h u (Rep.enc x) as) :
    EachIs (fun v d => ∃ as, Reads h v d as) us (xs.map Rep.enc) := by
  induction q generalizing us with
  | nil => cases r; exact .nil
  | cons h1 _ ih =>
    cases r with
    | cons r1 r2 => exact .cons (hd _ _ _ r1 h1) (ih r2)
theorem each_rel {H : Hp} {vs : List V} {us : List Value} {xs : List α} (r : Vals vs us) (q : Reps H vs xs) : EachIs (fun u (x : α) => ∃ v, RelV v u ∧ Rep.rep H v x) us xs := by
  induction q generalizing us with
  | nil => cases r; exact .nil
  | cons h1 _ ih =>
    cases r with
    | cons r1 r2 => exact .cons ⟨_, r1, h1⟩ (ih r2)
theorem each_back {H : Hp} {us : List Value} {xs : List α} (e : EachIs (fun u (x : α) => ∃ v, RelV v u ∧ Rep.rep H v x) us xs) : ∃ vs, Vals vs us ∧ Reps H vs xs := by
  induction e with
  | nil => exact ⟨[], .nil, .nil⟩
  | cons h1 _ ih =>
    obtain ⟨v, r1, h1⟩ := h1
    obtain ⟨vs, r2, h2⟩ := ih
    exact ⟨v :: vs, .cons r1 r2, .cons h1 h2⟩
theorem each_undo {R : Value → PyData → Prop} : ∀ {us : List Value} {xs : List α}, EachIs R us (xs.map Rep.enc) → EachIs (fun u (x : α) => R u (Rep.enc x)) us xs
  | [], [], _ => .nil
  | [], _ :: _, h => by cases h
  | _ :: _, [], h => by cases h
  | _ :: _, _ :: _, h => by
    cases h with
    | cons h1 t => exact .cons h1 (each_undo t)
/-- sorted(xs) of data -/
def rSortD (α : Type) [Rep α] : List V → Hp → VK → Prop := fun vs H Q => ∃ (S : Hp) (a : Addr) (ws : List V) (xs : List α), Same S H ∧ vs = [V.ref a] ∧ H a = some (.lst ws) ∧ Reps S ws xs ∧ Rep.dep α ≤ 64 ∧
  ∀ zs p, H p = none → Reps S zs (srt xs) → Q (.ref p) (upd H p (.lst zs))
theorem reads_of {X : Cx} {pins : List (Addr × Obj)} {σ : L2.St} {H : Hp} {s : Shared} (I : Inv X pins σ H s) {v : V} {u : Value} {x : α} (r : RelV v u) (h : Rep.rep H v x) : ∃ as, Reads s.heap u (Rep.enc x) as :=
  Dp.reads I _ v u (Rep.dp h) r
theorem cr_sortD [Srt α] {X : Cx} {k : Nat} (hr : Room k X.A) : CallR X (.builtin "sorted") (rSortD α) := by
  intro pins s σ H vs us Q I r h
  obtain ⟨S0, a, ws, xs, hS, rfl, ha, hq0, hz, q⟩ := h
  have hq := hq0.mono hS
  obtain ⟨its, rv, pl, hzl⟩ := I.list (SqL.of (K := X.K) ha)
  rw [Vals.ref1 r]
  have hlen := rv.length
  have hL : its.length ≤ sizeLine := by rw [← hlen]; exact hzl
  have hu : X.A.units + 64 + 16 < cLine := by have := hr.un; omega
  -- the values read as data in each later heap
  have key : ∀ h' : Heap, (∀ b o, s.heap.get? b = some o → h'.get? b = some o) → EachIs (fun v d => ∃ as, Reads h' v d as) its (xs.map Rep.enc) := fun h' kp =>
    each_reps (K := X.K) rv hq fun v u x rx hx => reads_of (s := { s with heap := h' }) (I.kept (t' := s.toks) kp) rx hx
  have hal : PySem.W.AllAlike (xs.map (Rep.enc : α → PyData)) := fun d hd d' hd' => by
    obtain ⟨x, _, rfl⟩ := List.mem_map.mp hd
    obtain ⟨y, _, rfl⟩ := List.mem_map.mp hd'
    exact Srt.al x y
  have hsb : PySem.W.Sortable (xs.map (Rep.enc : α → PyData)) := by
    rcases (Srt.ok : (∀ a : α, ∃ x r, Rep.enc a = .tuple (x :: r)) ∨ ∀ a : α, Rep.enc a ≠ .none ∧ ∀ xs, Rep.enc a ≠ .tuple xs) with z | z
    · refine .inl fun d hd => ?_
      obtain ⟨x, _, rfl⟩ := List.mem_map.mp hd
      exact z x
    · refine .inr fun d hd => ?_
      obtain ⟨x, _, rfl⟩ := List.mem_map.mp hd
      exact z x
  have e1 := key _ (fun b o e => PySem.W.sorting_copy_old (vs := its) e)
  have S := PySem.W.SortsAt.data (prog := X.prog) (w := X.w) (A := X.A.in1.in1) (s := { s with heap := PySem.W.sortingHeap (PySem.W.copyHeap s.heap its) (s.heap.objs.size + 1) its }) e1 hal hsb (fun d hd => by
    obtain ⟨x, _, rfl⟩ := List.mem_map.mp hd
    have hd2 := Nat.le_trans (Rep.dle x) hz
    show X.A.units + 1 + 1 + _ < cLine
    omega)
  refine PySem.W.sorted_vals pl.isList S hL ?_
  have eo := PySem.W.sortVals_each (κ := PySem.W.dataKind (PySem.W.sortingHeap (PySem.W.copyHeap s.heap its) (s.heap.objs.size + 1) its) (xs.map Rep.enc)) (rev := false) (fun b : α => PySem.W.keyToks (Rep.enc b)) (each_rel rv hq0)
    (each_undo (PySem.W.each_keys hal e1))
  obtain ⟨zs, r2, h2⟩ := each_back eo
  obtain ⟨ep, he'⟩ := PyProof.Rows.sortedAll_at s.heap its (PySem.W.sortVals (PySem.W.dataKind (PySem.W.sortingHeap (PySem.W.copyHeap s.heap its) (s.heap.objs.size + 1) its) (xs.map Rep.enc)) false its its).toArray
  have hn : H (s.heap.objs.size + 1) = none := I.hok.fresh (Nat.le_succ _)
  have hlen2 : zs.length ≤ sizeLine := by
    have e3 := h2.len
    have e4 : (srt xs).length = xs.length := srt_len xs
    have e5 := hq.len
    have e6 : zs.length = (srt xs).length := e3
    rw [e6, e4, ← e5]; exact hzl
  exact ⟨.ref _, upd H (s.heap.objs.size + 1) (.lst zs), I.laid (t' := s.toks) (fun _ _ => PyProof.Rows.sortedAll_old) (Nat.le_succ _) ⟨hlen2, _, ep, r2, he'⟩, rfl, q zs _ hn h2⟩
theorem ge_sorted [Srt α] {X : Cx} {σ : L2.St} {S : Hp} {e : Expr} {xs : List α} {k : Nat} {p pos : Pos} (hr : Room k X.A) (hm : X.mg "sorted" = none) (h : GE X e σ S (dt xs)) (hz : Rep.dep α ≤ 64 := by decide) (hg : Gl X "sorted" := by rfl)
    (hs : starEach [e] X.env = (false, eval e X.env) :: starEach [] X.env := by rfl) (hpl : (backTo pos (starEach [] X.env)).any (·.1) = false := by rfl) : GE X (.Call (.Name "sorted" p) [e] [] pos) σ S (dt (srt xs)) :=
  ge_of (pe_callB (cr_sortD (α := α) hr) hg hm boot_sorted' (pa_cons wE.pe pa_nil hs) (by decide) (by decide) hs hpl) (go_cb (ga_cons h ga_nil) fun S1 H1 vs _ d hv Q q => by
    obtain ⟨v, _, rfl, ⟨a, ws, rfl, ha, hl, hq⟩, rfl⟩ := hv
    refine ⟨S1, a, ws, xs, d, rfl, d _ _ ha, hq, hz, fun zs l hn h2 => ?_⟩
    have n := Fp.new (o := .lst zs) d hn
    exact q _ _ _ n ⟨l, zs, rfl, upd_same, by rw [srt_len]; exact hl, h2.mono n.ss⟩)
end
end Cp
namespace Cp
open PySem PySem.Spec PyProof.Rows L2
/-! ### a place that is changed while the data stand -/
theorem Fp.mutD {S H S' H' : Hp} {D : Addr} {o : HO} (f : Fp S H S' H') (h : H D = none) (n : S' D = none) : Fp S H S' (upd H' D o) := by
  refine ⟨f.ss, fun a u e => ?_, fun a u e => ?_, f.fr⟩
  · rw [upd_ne (ne_of_none e n)]; exact f.sh a u e
  · rw [upd_ne (ne_of_none e h)]; exact f.hh a u e
theorem Fp.keepD {S H S' H' : Hp} {D : Addr} {o : HO} (f : Fp S H S' H') (h : H D = none) (n : S' D = none) (e : H' D = some o) : Fp S H (upd S' D o) H' := by
  refine ⟨fun a u q => ?_, fun a u q => ?_, f.hh, fun a q z => ?_⟩
  · have q' := f.ss a u q
    rw [upd_ne (ne_of_none q' n)]; exact q'
  · by_cases c : a = D
    · subst c; rw [upd_same] at q; rw [e]; exact q
    · rw [upd_ne c] at q; exact f.sh a u q
  · by_cases c : a = D
    · subst c; exact absurd h z
    · rw [upd_ne c]; exact f.fr a q z
/-! ### what is walked -/
structure Src {α : Type} [Rep α] (J : It) (S2 : Hp) (xs : List α) : Prop where
  go : ∀ i S' H', Same S2 S' → Same S' H' → i < xs.length → J.go i H'
  stop : ∀ S' H', Same S2 S' → Same S' H' → J.stop xs.length H'
  yld : ∀ i S' H' v H'', Same S2 S' → Same S' H' → i < xs.length → J.yld i H' v H'' → ∃ S'' x, Fp S' H' S'' H'' ∧ xs[i]? = some x ∧ Rep.rep S'' v x
def GI {α : Type} [Rep α] (X : Cx) (tg iter : Expr) (σ : L2.St) (S : Hp) (xs : List α) : Prop :=
  ∃ wi, PI X tg iter wi ∧ ∀ S1 H1, Same S S1 → Same S1 H1 → ∀ R : It → Hp → Prop, (∀ J S2 H2, Fp S1 H1 S2 H2 → Src J S2 xs → R J H2) → wi σ H1 R
section
variable {X : Cx} {σ : L2.St} {S : Hp} {e tg : Expr} {α : Type} [Rep α] {p pos : Pos}
theorem gi_list {xs : List α} (h : GE X e σ S (dt xs)) : GI X tg e σ S xs := by
  refine ⟨_, pi_list wE.pe, fun S1 H1 c d R q => h S1 H1 c d _ fun v S2 H2 f hv => ?_⟩
  obtain ⟨a, vs, rfl, ha, hl, hr⟩ := hv
  refine ⟨a, rfl, ⟨vs, SqL.of (f.sh _ _ ha)⟩, q _ S2 H2 f ⟨fun i S' H' s1 s2 hi => ?_, fun S' H' s1 s2 => ?_, fun i S' H' v H'' s1 s2 hi y => ?_⟩⟩
  · have hi' : i < vs.length := by rw [hr.len]; exact hi
    exact ⟨vs, vs[i], SqL.of (s2 _ _ (s1 _ _ ha)), List.getElem?_eq_getElem hi'⟩
  · exact ⟨vs, SqL.of (s2 _ _ (s1 _ _ ha)), by rw [hr.len]; exact Nat.le_refl _⟩
  · obtain ⟨rfl, y⟩ := y
    obtain ⟨x, h1, h2⟩ := hr.get (y vs (SqL.of (s2 _ _ (s1 _ _ ha))))
    exact ⟨S', x, Fp.refl s2, h1, Rep.mono s1 h2⟩
/-- the numbers below n -/
def upto (n : Nat) : List Int := (List.range n).map fun (i : Nat) => (i : Int)
theorem upto_len (n : Nat) : (upto n).length = n := by unfold upto; rw [List.length_map, List.length_range]
theorem upto_at {n i : Nat} (h : i < n) : (upto n)[i]? = some (i : Int) := by
  unfold upto; rw [List.getElem?_map, List.getElem?_range h]; rfl
theorem gi_range {n : Nat} (hm : X.mg "range" = none) (h : GE X e σ S (dt (n : Int))) (hz : n ≤ most) (hg : Gl X "range" := by rfl) (hs : starEach [e] X.env = [(false, eval e X.env)] := by rfl) :
    GI X tg (.Call (.Name "range" p) [e] [] pos) σ S (upto n) := by
  refine ⟨_, pi_range1 hg hm (pa_cons wE.pe pa_nil hs) hs, fun S1 H1 c d R q => h S1 H1 c d _ fun v S2 H2 f hv => ?_⟩
  have hz' : n ≤ 4000 := hz
  refine ⟨(n : Int), by rw [show v = .int (n : Int) from hv], by omega, by omega, q _ S2 H2 f ⟨fun i S' H' s1 s2 hi => ?_, fun S' H' s1 s2 => ?_, fun i S' H' v H'' s1 s2 hi y => ?_⟩⟩
  · rw [upto_len] at hi
    show i < (n : Int).toNat
    omega
  · rw [upto_len]
    show (n : Int).toNat ≤ n
    omega
  · obtain ⟨rfl, rfl⟩ := y
    rw [upto_len] at hi
    exact ⟨S', (i : Int), Fp.refl s2, upto_at hi, show V.int ((0 : Int) + (i : Int)) = V.int (i : Int) by rw [Int.zero_add]⟩
/-- the items with their places -/
def numb (xs : List α) : List (Int × α) := xs.zipIdx.map fun p => ((p.2 : Int), p.1)
theorem numb_len (xs : List α) : (numb xs).length = xs.length := by unfold numb; rw [List.length_map, List.length_zipIdx]
theorem numb_at {xs : List α} {i : Nat} {x : α} (h : xs[i]? = some x) : (numb xs)[i]? = some ((i : Int), x) := by
  unfold numb; rw [List.getElem?_map, List.getElem?_zipIdx, h]; simp
theorem gi_enum {xs : List α} {elts : List Expr} {kk : Nat} {tpos : Pos} (hm : X.mg "enumerate" = none) (h : GE X e σ S (dt xs)) (hg : Gl X "enumerate" := by rfl) (hs : starEach [e] X.env = [(false, eval e X.env)] := by rfl) :
    GI X (.Tuple elts kk tpos) (.Call (.Name "enumerate" p) [e] [] pos) σ S (numb xs) := by
  refine ⟨_, pi_enum hg hm (pa_cons wE.pe pa_nil hs) hs, fun S1 H1 c d R q => h S1 H1 c d _ fun v S2 H2 f hv => ?_⟩
  obtain ⟨a, vs, rfl, ha, hl, hr⟩ := hv
  refine ⟨a, vs, rfl, SqL.of (f.sh _ _ ha), q _ S2 H2 f ⟨fun i S' H' s1 s2 hi => ?_, fun S' H' s1 s2 => ?_, fun i S' H' v H'' s1 s2 hi y => ?_⟩⟩
  · rw [numb_len] at hi
    have hi' : i < vs.length := by rw [hr.len]; exact hi
    exact ⟨vs, vs[i], SqL.of (s2 _ _ (s1 _ _ ha)), List.getElem?_eq_getElem hi'⟩
  · rw [numb_len]
    exact ⟨vs, SqL.of (s2 _ _ (s1 _ _ ha)), by rw [hr.len]; exact Nat.le_refl _⟩
  · obtain ⟨T, z, rfl, nT, rfl, y⟩ := y
    obtain ⟨x, h1, h2⟩ := hr.get (y vs (SqL.of (s2 _ _ (s1 _ _ ha))))
    have n := Fp.new (o := .tup [.int (i : Nat), z]) s2 nT
    exact ⟨_, _, n, numb_at h1, ⟨T, _, z, rfl, upd_same, rfl, Rep.mono (s1.trans n.ss) h2⟩⟩
/-- a text's signs -/
def sg (c : Nat) : Str := ⟨#[c]⟩
def signs (z : Str) : List Str := z.cps.toList.map sg
theorem signs_len (z : Str) : (signs z).length = z.cps.size := by unfold signs; rw [List.length_map, Array.length_toList]
theorem gi_str {z : Str} (h : GE X e σ S (dt z)) : GI X tg e σ S (signs z) := by
  refine ⟨_, pi_str wE.pe, fun S1 H1 c d R q => h S1 H1 c d _ fun v S2 H2 f hv => ?_⟩
  obtain ⟨rfl, hz⟩ := hv
  refine ⟨z, rfl, q _ S2 H2 f ⟨fun i S' H' s1 s2 hi => ?_, fun S' H' s1 s2 => ?_, fun i S' H' v H'' s1 s2 hi y => ?_⟩⟩
  · rw [signs_len] at hi; exact hi
  · rw [signs_len]; exact Nat.le_refl _
  · obtain ⟨rfl, c, hc, rfl⟩ := y
    refine ⟨S', sg c, Fp.refl s2, ?_, rfl, ?_, (by show 1 ≤ 4000; decide)⟩
    · unfold signs; rw [List.getElem?_map, Array.getElem?_toList, hc]; rfl
    · have h1 : z.cps.all (· < 0x110000) = true := hz.1
      show (#[c] : Array Nat).all (· < 0x110000) = true
      obtain ⟨hi', e'⟩ := Array.getElem?_eq_some_iff.mp hc
      have h2 := Array.all_eq_true.mp h1 i hi'
      rw [e'] at h2
      simpa using h2
end
/-! ### comprehensions -/
/-- a clause's tests -/
def wTs (X : Cx) (ifs : List Expr) : TT := fun σ H Q => ∀ (pins : List (Addr × Obj)) (s : Shared), Inv X pins σ H s →
    wpAny (model X.prog X.w) X.A (forIn ifs true fun c r => if r = true then do let ok ← isTrue c X.env (eval c X.env); pure (ForInStep.yield ok) else pure (ForInStep.yield r)) (TP X pins σ Q) X.xe s
theorem wTs.pts {X : Cx} {ifs : List Expr} : PTs X ifs (wTs X ifs) := ⟨fun pins s _ _ _ I h => h pins s I⟩
abbrev GTs (X : Cx) (ifs : List Expr) (σ : L2.St) (S : Hp) (b : Bool) : Prop := GoT (wTs X ifs) σ S b
theorem gts_nil {X : Cx} {σ : L2.St} {S : Hp} : GTs X [] σ S true := fun S1 H1 c d Q q pins s I => (pts_nil (X := X)).run pins s σ H1 Q I (q S1 H1 (Fp.refl d))
theorem gts_one {X : Cx} {σ : L2.St} {S : Hp} {e : Expr} {b : Bool} (h : GT X e σ S b) : GTs X [e] σ S b := fun S1 H1 c d Q q pins s I => (pts_one (X := X) wT.pt).run pins s σ H1 Q I (h S1 H1 c d Q q)
/-- the block's context -/
abbrev BX (X : Cx) (scope : Scope) (s : Shared) (H : Hp) (C : Addr) (cl : List (Str × Addr)) (fp : List Addr) : Cx := X.blk s H scope (compEnvC scope cl C X.env) fp
def bE (X : Cx) (scope : Scope) (e : Expr) : TE := fun σ H Q => ∀ s H0 C cl fp, wE (BX X scope s H0 C cl fp) e σ H Q
def bTs (X : Cx) (scope : Scope) (ifs : List Expr) : TT := fun σ H Q => ∀ s H0 C cl fp, wTs (BX X scope s H0 C cl fp) ifs σ H Q
/-- where a target's parts come to stand -/
def Tgt {α : Type} [Rep α] (g : TG) (σ0 : L2.St) (comps : α → List Rl) (τ : List V → L2.St) : Prop :=
  ∀ (x : α) v S1 H1, Rep.rep S1 v x → Same S1 H1 → ∀ Q : L2.St → Hp → Prop, (∀ ws, All2 S1 (comps x) ws → Q (τ ws) H1) → g v σ0 H1 Q
theorem tgt_name {α : Type} [Rep α] {σ0 : L2.St} (j : Nat) : Tgt (α := α) (gName j) σ0 (fun x => [dt x]) (fun ws => σ0.set j ws.head?) := fun x v S1 H1 h _ Q q => q [v] ⟨v, [], rfl, h, rfl⟩
theorem tgt_pair {α β : Type} [Rep α] [Rep β] {K : PySem.W.Frag} {σ0 : L2.St} (i j : Nat) : Tgt (α := α × β) (gTup K 2 (gCons (gName i) (gCons (gName j) gNil))) σ0 (fun x => [dt x.1, dt x.2]) (fun ws => (σ0.set i ws.head?).set j ws.tail.head?) := fun x v S1 H1 h s Q q => by
  obtain ⟨p, v1, v2, rfl, hp, h1, h2⟩ := h
  exact ⟨p, _, rfl, SqT.of (s _ _ hp), rfl, v1, [v2], rfl, v2, [], rfl, rfl, q [v1, v2] ⟨v1, _, rfl, h1, v2, _, rfl, h2, rfl⟩⟩
theorem flt_take {α : Type} {p : α → Bool} {xs : List α} {i : Nat} {x : α} (h : xs[i]? = some x) : (xs.take (i + 1)).filter p = if p x then (xs.take i).filter p ++ [x] else (xs.take i).filter p := by
  have e : xs.take (i + 1) = xs.take i ++ [x] := by rw [List.take_succ, h]; rfl
  rw [e, List.filter_append]
  by_cases hp : p x = true
  · rw [if_pos hp, List.filter_cons, if_pos hp]; rfl
  · rw [if_neg hp, List.filter_cons, if_neg hp]; exact List.append_nil _
section
variable {X : Cx} {σ : L2.St} {S : Hp} {elt iter tg : Expr} {ifs : List Expr} {scope : Scope} {own : List (Str × Nat)} {pos : Pos} {α β : Type} [Rep α] [Rep β] {xs : List α} {g : TG} {comps : α → List Rl} {τ : List V → L2.St} {f : α → β} {p : α → Bool}
theorem go_lc {wi : TI} (hz : xs.length ≤ most) (hi : ∀ S1 H1, Same S S1 → Same S1 H1 → ∀ R : It → Hp → Prop, (∀ J S2 H2, Fp S1 H1 S2 H2 → Src J S2 xs → R J H2) → wi σ H1 R)
    (ht : Tgt g (wipe σ (own.map (·.2))) comps τ) (hw : ∀ ws, wipe (τ ws) (own.map (·.2)) = wipe σ (own.map (·.2)))
    (hp : ∀ x ws S1, Same S S1 → x ∈ xs → All2 S1 (comps x) ws → ∀ s H C cl fp, GTs (BX X scope s H C cl fp) ifs (τ ws) S1 (p x))
    (hf : ∀ x ws S1, Same S S1 → x ∈ xs → p x = true → All2 S1 (comps x) ws → ∀ s H C cl fp, GE (BX X scope s H C cl fp) elt (τ ws) S1 (dt (f x))) :
    Go (tLc wi g (bTs X scope ifs) (bE X scope elt) (own.map (·.2))) σ S (dt ((xs.filter p).map f)) := fun S1 H1 c d Q q => by
  refine hi S1 H1 c d _ fun J S2 H2 f2 src D hD => ?_
  refine ⟨fun i m H => m = xs.length - i ∧ i ≤ xs.length ∧ ∃ S' acc, Fp S2 H2 S' H ∧ S' D = none ∧ H D = some (.lst acc) ∧ Reps S' acc (((xs.take i).filter p).map f), ⟨xs.length, rfl, Nat.zero_le _, S2, [], ?_, same_none f2.sh hD, upd_same, .nil⟩, ?_⟩
  · exact Fp.newH f2.sh hD
  rintro i m H ⟨rfl, hi, S', acc, fi, nD, eD, hr⟩
  by_cases hlt : i < xs.length
  · refine .inr ⟨src.go i S' H fi.ss fi.sh hlt, fun H => i + 1 ≤ xs.length ∧ ∃ S' acc, Fp S2 H2 S' H ∧ S' D = none ∧ H D = some (.lst acc) ∧ Reps S' acc (((xs.take (i + 1)).filter p).map f), fun H' q' => ⟨xs.length - (i + 1), by omega, rfl, q'⟩, fun v H' y => ?_⟩
    obtain ⟨S'', x, fy, hx, hv⟩ := src.yld i S' H v H' fi.ss fi.sh hlt y
    have hm : x ∈ xs := List.mem_of_getElem? hx
    have cS : Same S S'' := ((c.trans f2.ss).trans fi.ss).trans fy.ss
    have nDH : H D ≠ none := by rw [eD]; exact fun z => nomatch z
    have nD2 : S'' D = none := fy.fr D nD nDH
    have hfl := flt_take (p := p) hx
    have hal : acc.length ≤ i := by
      rw [hr.len, List.length_map]
      exact Nat.le_trans (List.length_filter_le _ _) (by rw [List.length_take]; exact Nat.min_le_left _ _)
    refine ht x v S'' H' hv fy.sh _ fun ws hws => ⟨hw ws, ?_⟩
    refine fun s H0 C cl fp => hp x ws S'' cS hm hws s H0 C cl fp S'' H' (Same.refl _) fy.sh _ fun S3 H3 f3 => ?_
    have nD3 : S3 D = none := f3.fr D nD2 (by rw [fy.hh D _ eD]; exact fun z => nomatch z)
    cases hpx : p x with
    | true =>
      refine iteT fun s H0 C cl fp => hf x ws S3 (cS.trans f3.ss) hm hpx (hws.mono f3.ss) s H0 C cl fp S3 H3 (Same.refl _) f3.sh _ fun y S4 H4 f4 hy => ?_
      have e3 : H3 D = some (.lst acc) := f3.hh D _ (fy.hh D _ eD)
      have nD4 : S4 D = none := f4.fr D nD3 (by rw [e3]; exact fun z => nomatch z)
      have hz' : xs.length ≤ 4000 := hz
      refine ⟨acc, f4.hh D _ e3, small_lt (show acc.length ≤ 4000 by omega), by omega, S4, acc ++ [y], (((fi.trans fy).trans f3).trans f4).mutD hD nD4, nD4, upd_same, ?_⟩
      rw [hfl, hpx, if_pos rfl, List.map_append]
      exact ((hr.mono ((fy.ss.trans f3.ss).trans f4.ss))).snoc hy
    | false =>
      refine iteF ⟨by omega, S3, acc, (fi.trans fy).trans f3, nD3, f3.hh D _ (fy.hh D _ eD), ?_⟩
      rw [hfl, hpx, if_neg Bool.false_ne_true]
      exact hr.mono (fy.ss.trans f3.ss)
  · have e : i = xs.length := by omega
    subst e
    refine .inl ⟨src.stop S' H fi.ss fi.sh, ?_⟩
    have n := (f2.trans (fi.keepD hD nD eD))
    rw [List.take_length] at hr
    refine q _ _ _ n ⟨D, acc, rfl, upd_same, ?_, hr.mono fun a u e => by rw [upd_ne (ne_of_none e nD)]; exact e⟩
    rw [List.length_map]
    exact Nat.le_trans (List.length_filter_le _ _) hz
theorem pts_b (s : Shared) (H : Hp) (C : Addr) (cl : List (Str × Addr)) (fp : List Addr) : PTs (BX X scope s H C cl fp) ifs (bTs X scope ifs) := ⟨fun pins s' _ _ _ I h => h s H C cl fp pins s' I⟩
theorem pe_b (s : Shared) (H : Hp) (C : Addr) (cl : List (Str × Addr)) (fp : List Addr) : PE (BX X scope s H C cl fp) elt (bE X scope elt) := ⟨fun pins s' _ _ _ I h => h s H C cl fp pins s' I⟩
theorem ge_lc (N : List Str) (sc : Scope) (own : List (Str × Nat)) (hc : X.calm = true) (hN : X.N.Nodup) (hi : GI X tg iter σ S xs) (hz : xs.length ≤ most)
    (hg : ∀ s H C cl fp, PG (BX X scope s H C cl fp) tg g) (ht : Tgt g (wipe σ (own.map (·.2))) comps τ) (hw : ∀ ws, wipe (τ ws) (own.map (·.2)) = wipe σ (own.map (·.2)))
    (hp : ∀ x ws S1, Same S S1 → x ∈ xs → All2 S1 (comps x) ws → ∀ s H C cl fp, GTs (BX X scope s H C cl fp) ifs (τ ws) S1 (p x))
    (hf : ∀ x ws S1, Same S S1 → x ∈ xs → p x = true → All2 S1 (comps x) ws → ∀ s H C cl fp, GE (BX X scope s H C cl fp) elt (τ ws) S1 (dt (f x)))
    (hs : ∀ x, foldedSetIterable iter X.env x = pure x := by intro _; rfl) (eN : X.N = N := by rfl) (eS : X.env.scope = sc := by rfl) (ok : blkC N sc scope own = true := by decide +kernel) :
    GE X (.ListComp elt [⟨tg, iter, ifs, 0⟩] scope pos) σ S (dt ((xs.filter p).map f)) :=
  let ⟨_, pi, gi⟩ := hi
  ge_of (pe_lc hc hN pi (blkOk_by (by rw [eN, eS]; exact ok)) hg pts_b pe_b hs) (go_lc hz gi ht hw hp hf)
end
end Cp
namespace Cp
open PySem PySem.Spec PyProof.Rows L2
/-! ### statements -/
section
variable {X : Cx} {σ : L2.St} {S H S0 H0 : Hp} {e a b c : Expr} {st : Stmt} {sts body els : List Stmt} {es : List Expr} {r r1 r2 : Rl} {pos pos' : Pos} {k : Bool} {D : Ends}
theorem wss_nil (h : D.nx σ H) : wSs X [] D σ H := of_pss pss_nil h
theorem wss_cons (h : wS X st { D with nx := fun σ H => wSs X sts D σ H } σ H) : wSs X (st :: sts) D σ H := of_pss (pss_cons wS.ps wSs.ps) h
theorem wss_one (h : wS X st D σ H) : wSs X [st] D σ H := of_pss (pss_one wS.ps) h
/-- the plain form of an evaluation -/
theorem go_now {t : TE} (g : Go t σ S r) (h : Same S H) {Q : VK} (q : ∀ v S' H', Fp S H S' H' → r.p S' v → Q v H') : t σ H Q := g S H (Same.refl _) h Q q
theorem ws_set (i : Nat) {x : Str} (g : GE X e σ S r) (hS : Same S H) (k : ∀ v S' H', Fp S H S' H' → r.p S' v → D.nx (σ.set i (some v)) H') (hN : X.N.Nodup) (hi : X.N[i]? = some x := by rfl) (hx : Loc X.env.scope x := by first | exact Or.inl rfl | exact Or.inr rfl)
    (hs : swapsWith e (some (.Name x pos')) pos.line X.env = pure false := by rfl) (hf : X.fn x = true ∨ X.env.scope.names.lookup x = some .local := by first | exact .inl rfl | exact .inr rfl) : wS X (.Assign [.Name x pos'] e pos) D σ H :=
  of_ps (ps_set hN hi hx wE.pe hs hf) (go_now g hS k)
theorem ws_ret (f0 : Fp S0 H0 S H) (g : GE X e σ S r) (k : ∀ v S' H', Fp S0 H0 S' H' → r.p S' v → D.rt v H') : wS X (.Return (some e) pos) D σ H :=
  of_ps (ps_ret wE.pe) (go_now g f0.sh fun v S' H' f h => k v S' H' (f0.trans f) h)
theorem ws_if (g : GT X c σ S k) (hS : Same S H) (h1 : k = true → ∀ S' H', Fp S H S' H' → wSs X body D σ H') (h2 : k = false → ∀ S' H', Fp S H S' H' → wSs X els D σ H') : wS X (.If c body els pos) D σ H :=
  of_ps (ps_if wT.pt wSs.ps wSs.ps) (g S H (Same.refl _) hS _ fun S' H' f => by
    cases k with
    | true => exact iteT (h1 rfl S' H' f)
    | false => exact iteF (h2 rfl S' H' f))
theorem ws_expr (g : GE X e σ S r) (hS : Same S H) (k : ∀ v S' H', Fp S H S' H' → r.p S' v → D.nx σ H') (hs : swapsWith e none pos.line X.env = pure false := by rfl) : wS X (.Expr e pos) D σ H := of_ps (ps_expr wE.pe hs) (go_now g hS k)
theorem ws_par (i j : Nat) {x y : Str} {px py pt : Pos} {kt k2 pt2} (hc : X.calm = true) (hN : X.N.Nodup) (g : GA X [a, b] σ S [r1, r2]) (hS : Same S H) (k : ∀ v w S' H', Fp S H S' H' → r1.p S' v → r2.p S' w → D.nx ((σ.set i (some v)).set j (some w)) H')
    (hi : X.N[i]? = some x := by rfl) (hj : X.N[j]? = some y := by rfl) (hij : i ≠ j := by decide) (hx : X.env.scope.names.lookup x = some .local := by rfl) (hy : X.env.scope.names.lookup y = some .local := by rfl)
    (hw : swappedStores [.Tuple [.Name x px, .Name y py] kt pt] (.Tuple [a, b] k2 pt2) X.env = pure (some [x, y]) := by rfl)
    (hs : swapsWithSole [.Tuple [.Name x px, .Name y py] kt pt] (.Tuple [a, b] k2 pt2) pos.line X.env = pure false := by rfl) : wS X (.Assign [.Tuple [.Name x px, .Name y py] kt pt] (.Tuple [a, b] k2 pt2) pos) D σ H :=
  let ⟨_, pa, ga⟩ := g
  of_ps (ps_par hc hN hi hj hij hx hy pa hw hs) (ga S H (Same.refl _) hS _ fun vs S' H' f hv => by
    obtain ⟨v, _, rfl, h1, w, _, rfl, h2, rfl⟩ := hv
    exact ⟨v, w, rfl, k v w S' H' f h1 h2⟩)
theorem ws_par3 (i j l : Nat) {x y z : Str} {px py pz pt : Pos} {r3 : Rl} {kt k2 pt2} (hc : X.calm = true) (hN : X.N.Nodup) (g : GA X [a, b, c] σ S [r1, r2, r3]) (hS : Same S H)
    (k : ∀ u v w S' H', Fp S H S' H' → r1.p S' u → r2.p S' v → r3.p S' w → D.nx (((σ.set i (some u)).set j (some v)).set l (some w)) H')
    (hi : X.N[i]? = some x := by rfl) (hj : X.N[j]? = some y := by rfl) (hl : X.N[l]? = some z := by rfl) (hij : i ≠ j := by decide) (hil : i ≠ l := by decide) (hjl : j ≠ l := by decide)
    (hx : X.env.scope.names.lookup x = some .local := by rfl) (hy : X.env.scope.names.lookup y = some .local := by rfl) (hz : X.env.scope.names.lookup z = some .local := by rfl)
    (hw : swappedStores [.Tuple [.Name x px, .Name y py, .Name z pz] kt pt] (.Tuple [a, b, c] k2 pt2) X.env = pure (some [x, y, z]) := by rfl)
    (hs : swapsWithSole [.Tuple [.Name x px, .Name y py, .Name z pz] kt pt] (.Tuple [a, b, c] k2 pt2) pos.line X.env = pure false := by rfl) : wS X (.Assign [.Tuple [.Name x px, .Name y py, .Name z pz] kt pt] (.Tuple [a, b, c] k2 pt2) pos) D σ H :=
  let ⟨_, pa, ga⟩ := g
  of_ps (ps_par3 hc hN hi hj hl hij hil hjl hx hy hz pa hw hs) (ga S H (Same.refl _) hS _ fun vs S' H' f hv => by
    obtain ⟨u, _, rfl, h1, v, _, rfl, h2, w, _, rfl, h3, rfl⟩ := hv
    exact ⟨u, v, w, rfl, k u v w S' H' f h1 h2 h3⟩)
/-- word, lot, entry = value -/
theorem ws_unln (i j l : Nat) {x y z : Str} {px py pz pt : Pos} {kt} {ln : Ln} (hc : X.calm = true) (hN : X.N.Nodup) (g : GE X e σ S (dt ln)) (hS : Same S H)
    (k : ∀ u v w S' H', Fp S H S' H' → Rep.rep S' u ln.word → Rep.rep S' v ln.lot → Rep.rep S' w ln.who → D.nx (((σ.set i (some u)).set j (some v)).set l (some w)) H')
    (hi : X.N[i]? = some x := by rfl) (hj : X.N[j]? = some y := by rfl) (hl : X.N[l]? = some z := by rfl)
    (hx : Loc X.env.scope x := by first | exact Or.inl rfl | exact Or.inr rfl) (hy : Loc X.env.scope y := by first | exact Or.inl rfl | exact Or.inr rfl) (hz : Loc X.env.scope z := by first | exact Or.inl rfl | exact Or.inr rfl)
    (fx : X.fn x = true ∨ X.env.scope.names.lookup x = some .local := by first | exact .inl rfl | exact .inr rfl) (fy : X.fn y = true ∨ X.env.scope.names.lookup y = some .local := by first | exact .inl rfl | exact .inr rfl) (fz : X.fn z = true ∨ X.env.scope.names.lookup z = some .local := by first | exact .inl rfl | exact .inr rfl)
    (hs : swapsWithSole [.Tuple [.Name x px, .Name y py, .Name z pz] kt pt] e pos.line X.env = pure false := by rfl) (hw : swappedStores [.Tuple [.Name x px, .Name y py, .Name z pz] kt pt] e X.env = pure none := by rfl) :
    wS X (.Assign [.Tuple [.Name x px, .Name y py, .Name z pz] kt pt] e pos) D σ H :=
  of_ps (ps_asg wE.pe (pg_tup hc (pgs_cons (pg_name hN hi hx fx) (pgs_cons (pg_name hN hj hy fy) (pgs_cons (pg_name hN hl hz fz) pgs_nil)))) hs hw) (go_now g hS fun v S' H' f hv => by
    obtain ⟨p, v1, v2, v3, rfl, hp, h1, h2, h3⟩ := hv
    exact ⟨p, _, rfl, SqT.of (f.sh _ _ hp), rfl, v1, _, rfl, v2, _, rfl, v3, _, rfl, rfl, k v1 v2 v3 S' H' f h1 h2 h3⟩)
/-- x = [.. for ..] on one line -/
theorem ws_setLc (i : Nat) (N : List Str) (sc : Scope) (own : List (Str × Nat)) {x : Str} {α β : Type} [Rep α] [Rep β] {elt tg iter : Expr} {ifs : List Expr} {scope : Scope} {xs : List α} {g : TG} {comps : α → List Rl} {τ : List V → L2.St} {f : α → β} {p : α → Bool} {cpos : Pos}
    (hc : X.calm = true) (hN : X.N.Nodup) (hi : GI X tg iter σ S xs) (hz : xs.length ≤ most)
    (hg : ∀ s H C cl fp, PG (BX X scope s H C cl fp) tg g) (ht : Tgt g (wipe σ (own.map (·.2))) comps τ) (hw : ∀ ws, wipe (τ ws) (own.map (·.2)) = wipe σ (own.map (·.2)))
    (hp : ∀ x ws S1, Same S S1 → x ∈ xs → All2 S1 (comps x) ws → ∀ s H C cl fp, GTs (BX X scope s H C cl fp) ifs (τ ws) S1 (p x))
    (hf : ∀ x ws S1, Same S S1 → x ∈ xs → p x = true → All2 S1 (comps x) ws → ∀ s H C cl fp, GE (BX X scope s H C cl fp) elt (τ ws) S1 (dt (f x)))
    (hS : Same S H) (k : ∀ v S' H', Fp S H S' H' → Rep.rep S' v ((xs.filter p).map f) → D.nx (σ.set i (some v)) H') (hy : X.N[i]? = some x := by rfl) (hyl : X.env.scope.names.lookup x = some .local := by rfl)
    (hsw : swapsWith (.ListComp elt [⟨tg, iter, ifs, 0⟩] scope cpos) (some (.Name x pos')) pos.line X.env = pure true := by exact sw_true rfl rfl rfl (by decide +kernel)) (hs : ∀ x, foldedSetIterable iter X.env x = pure x := by intro _; rfl)
    (eN : X.N = N := by rfl) (eS : X.env.scope = sc := by rfl) (ok : blkC N sc scope own = true := by decide +kernel) :
    wS X (.Assign [.Name x pos'] (.ListComp elt [⟨tg, iter, ifs, 0⟩] scope cpos) pos) D σ H :=
  let ⟨_, pi, gi⟩ := hi
  of_ps (ps_setLc hc hN hy hyl hsw pi (blkOk_by (by rw [eN, eS]; exact ok)) hg pts_b pe_b hs) (go_now (go_lc hz gi ht hw hp hf) hS k)
/-- a for -/
theorem ws_for {α : Type} [Rep α] {xs : List α} {tg iter : Expr} {g : TG} (hp : PassesOwn (model X.prog X.w) X.A X.env X.xe) (hc : X.calm = true) (hi : GI X tg iter σ S xs) (hg : PG X tg g) (hS : Same S H)
    (W : Hp → Hp → Nat → L2.St → Hp → Hp → Prop)
    (h0 : ∀ S2 H2, Fp S H S2 H2 → W S2 H2 0 σ S2 H2)
    (hs : ∀ S2 H2, Fp S H S2 H2 → ∀ i σ' S' H', W S2 H2 i σ' S' H' → Same S2 S' ∧ Same S' H')
    (ht : ∀ S2 H2, Fp S H S2 H2 → ∀ i x v σ' S' H' S'' H'', xs[i]? = some x → W S2 H2 i σ' S' H' → Fp S' H' S'' H'' → Rep.rep S'' v x →
      g v σ' H'' fun σ3 H3 => wSs X body { D with nx := fun σ4 H4 => ∃ S4, W S2 H2 (i + 1) σ4 S4 H4, ct := fun σ4 H4 => ∃ S4, W S2 H2 (i + 1) σ4 S4 H4, bk := D.nx } σ3 H3)
    (hd : ∀ S2 H2, Fp S H S2 H2 → ∀ σ' S' H', W S2 H2 xs.length σ' S' H' → D.nx σ' H') (hfs : ∀ x, foldedSetIterable iter X.env x = pure x := by intro _; rfl) : wS X (.For tg iter body [] pos) D σ H := by
  obtain ⟨wi, pi, gi⟩ := hi
  refine of_ps (ps_for hp hc pi hg wSs.ps hfs) (gi S H (Same.refl _) hS _ fun J S2 H2 f2 src => ?_)
  refine ⟨fun i m σ H => m = xs.length - i ∧ i ≤ xs.length ∧ ∃ S', W S2 H2 i σ S' H, ⟨xs.length, rfl, Nat.zero_le _, S2, h0 S2 H2 f2⟩, ?_⟩
  rintro i m σ' H' ⟨rfl, hi, S', w⟩
  obtain ⟨s1, s2⟩ := hs S2 H2 f2 i σ' S' H' w
  by_cases hlt : i < xs.length
  · refine .inr ⟨src.go i S' H' s1 s2 hlt, fun σ4 H4 => ∃ S4, W S2 H2 (i + 1) σ4 S4 H4, fun σ4 H4 q' => ⟨xs.length - (i + 1), by omega, rfl, hlt, q'⟩, fun v H'' y => ?_⟩
    obtain ⟨S'', x, fy, hx, hv⟩ := src.yld i S' H' v H'' s1 s2 hlt y
    exact ht S2 H2 f2 i x v σ' S' H' S'' H'' hx w fy hv
  · have e : i = xs.length := by omega
    subst e
    exact .inl ⟨src.stop S' H' s1 s2, hd S2 H2 f2 σ' S' H' w⟩
/-- a reference -/
def rRef (a : Addr) : Rl := ⟨fun _ v => v = .ref a, fun _ h => h⟩
/-- o.append(e), the list not among the data -/
theorem ws_app {l : Addr} {acc : List V} {o : Expr} {ap cp : Pos} (hl : H l = some (.lst acc)) (nl : S l = none) (ho : GE X o σ S (rRef l)) (g : GE X e σ S r) (hS : Same S H) (hz : acc.length < sizeLine)
    (k : ∀ v S' H', Fp S H S' H' → S' l = none → H' l = some (.lst acc) → r.p S' v → D.nx σ (upd H' l (.lst (acc ++ [v]))))
    (hbase : attributeBase o "append" X.env (eval o X.env) = eval o X.env := by rfl)
    (hfew : ((backTo cp (starEach [e] X.env)).all (fun x => !x.1) && (backToKw cp (keywordEach [] X.env)).all (fun x => x.1.isSome)
      && decide ([e].length + ([] : List Keyword).length + (if ([] : List Keyword).isEmpty then 0 else 1) < 30)) = true := by rfl)
    (hline : (ap.endLine == cp.line) = true := by rfl) (hs : starEach [e] X.env = (false, eval e X.env) :: starEach [] X.env := by rfl) (hplain : (backTo cp (starEach [] X.env)).any (·.1) = false := by rfl)
    (hsw : swapsWith (.Call (.Attribute o "append" ap) [e] [] cp) none pos.line X.env = pure false := by rfl) : wS X (.Expr (.Call (.Attribute o "append" ap) [e] [] cp) pos) D σ H :=
  of_ps (ps_expr (pe_bm PySem.F.plainAttrs_list PySem.F.slot_list_append PySem.F.type_list_append mt_append wE.pe (pa_cons wE.pe pa_nil hs) hbase hfew hline hs hplain) hsw) (go_now ho hS fun v S1 H1 f1 hv => by
    have hv : v = .ref l := hv
    subst hv
    have e1 := f1.hh _ _ hl
    have n1 := f1.fr l nl (by rw [hl]; exact fun z => nomatch z)
    refine ⟨.inl ⟨rfl, acc, SqL.of e1⟩, g S1 H1 f1.ss f1.sh _ fun w S2 H2 f2 hw => ?_⟩
    exact ⟨l, acc, w, rfl, rfl, f2.hh _ _ e1, hz, k w S2 H2 (f1.trans f2) (f2.fr l n1 (by rw [e1]; exact fun z => nomatch z)) (f2.hh _ _ e1) hw⟩)
end
/-! ### defs -/
/-- a promise: with such arguments it gives that -/
def Pr (A : Type) (arg : A → List Rl) (res : A → Rl) (pre : A → Prop) : Sp := fun vs H Q _ => ∃ a S, Same S H ∧ All2 S (arg a) vs ∧ pre a ∧ ∀ v S' H', Fp S H S' H' → (res a).p S' v → Q v H'
/-- a name of the module that stands for a def which keeps a promise -/
structure Has (P : Program) (w : World) (K : PySem.W.Frag) (mg : Str → Option Value) (base : Heap) (x : Str) (ps : List Str) (k : Nat) (sp : Sp) : Prop where
  ex : ∃ f fd, mg x = some (.ref f) ∧ PySem.W.keepIn K (.ref f) = true ∧ Binds K fd ps [] ∧ FnOk P w K mg base CX0 k f fd ps sp
theorem all2_len {S : Hp} : ∀ {rs : List Rl} {vs : List V}, All2 S rs vs → vs.length = rs.length
  | [], vs, h => by have h : vs = [] := h; subst h; rfl
  | r :: rs, vs, h => by
    obtain ⟨v, ws, rfl, _, h2⟩ := h
    rw [List.length_cons, List.length_cons, all2_len h2]
section
variable {X : Cx} {σ : L2.St} {S : Hp} {e : Expr} {es : List Expr} {p pos : Pos} {x : Str} {ps : List Str} {k k' : Nat} {A : Type} {arg : A → List Rl} {res : A → Rl} {pre : A → Prop}
theorem ge_call (r : Rl) (F : Has X.prog X.w X.K X.mg X.base x ps k (Pr A arg res pre)) (hr : Room k' X.A) (a : A) (ha : GA X (e :: es) σ S (arg a)) (hp : pre a) (hres : res a = r := by rfl) (hk : k ≤ k' := by decide) (hg : Gl X x := by rfl) (hdb : (x == ("__debug__" : Str)) = false := by decide)
    (he : starEach (e :: es) X.env = (false, eval e X.env) :: starEach es X.env := by rfl) (hpl : (backTo pos (starEach es X.env)).any (·.1) = false := by rfl) : GE X (.Call (.Name x p) (e :: es) [] pos) σ S r := by
  subst hres
  obtain ⟨f, fd, hm, kp, hb, G⟩ := F.ex
  obtain ⟨t, pa, ga⟩ := ha
  refine ge_of (pe_call G (hr.mono hk) hg hm kp hb .nil pass0 pa hdb he hpl) fun S1 H1 c d Q q => ga S1 H1 c d _ fun vs S2 H2 f2 hv => ?_
  rw [List.append_nil]
  exact ⟨a, S2, f2.sh, hv, hp, fun v S' H' f3 h => q v S' H' (f2.trans f3) h⟩
end
/-- THE RULE for a def -/
theorem has_of {P : Program} {w : World} {K : PySem.W.Frag} {mg : Str → Option Value} {base : Heap} {x qual : Str} {st : Stmt} {f : Addr} {fd : FuncData} {N ps : List Str} {k : Nat} {A : Type} {arg : A → List Rl} {res : A → Rl} {pre : A → Prop}
    (F : FunD K x qual (defArgs st) (defBody st) (defScope st) [] [] f fd) (g : mg x = some (.ref f)) (hb : Binds K fd ps []) (sc : FnScope N ps (defScope st)) (hl : ∀ a, (arg a).length = ps.length)
    (body : ∀ (cdv : Value) (A0 : Around) (outer : List Env) (s : Shared) (H : Hp) (E : XK), Room k (A0.deeper (envOfC qual (defScope st) s.heap.objs.size f cdv)) →
      ∀ a S vs (D : Ends), Same S H → All2 S (arg a) vs → pre a → (∀ v S' H', Fp S H S' H' → (res a).p S' v → D.rt v H') → (∀ σ' H', D.nx σ' H' = D.rt .non H') →
      wSs (cxOf CX0 P w K mg base N qual (defScope st) f cdv A0 outer s H E).nox (defBody st) D (start N vs) H) :
    Has P w K mg base x ps (k + 1) (Pr A arg res pre) :=
  ⟨f, fd, g, F.kp, hb, F.ok sc (fun vs H Q E ⟨a, S, _, h, _⟩ => by rw [all2_len h, hl]) fun cdv A0 outer s H vs Q E hr ⟨a, S, hS, h, hp, q⟩ =>
    ⟨_, (wSs.ps (X := (cxOf CX0 P w K mg base N qual (defScope st) f cdv A0 outer s H E).nox)).nox, body cdv A0 outer s H E hr a S vs { nx := fun _ H' => Q .non H', rt := Q } hS h hp q fun _ _ => rfl⟩⟩
end Cp
namespace Cp
open PySem PySem.Spec PyProof.Rows L2
theorem rep_small {α : Type} [Rep α] {S : Hp} {v : V} {xs : List α} (h : Rep.rep S v xs) : xs.length ≤ most := by
  obtain ⟨_, _, _, _, h, _⟩ := h
  exact h
section
variable {X : Cx} {σ : L2.St} {S : Hp} {elt iter : Expr} {ifs : List Expr} {scope : Scope} {pos tpos : Pos} {α β : Type} [Rep α] [Rep β] {xs : List α} {x : Str}
/-- [x for x in it if t] -/
theorem ge_flt (N : List Str) (sc : Scope) (j : Nat) (p : α → Bool) (hc : X.calm = true) (hN : X.N.Nodup) (hi : GI X (.Name x tpos) iter σ S xs) (hz : xs.length ≤ most)
    (hp : ∀ y v S1, Same S S1 → y ∈ xs → Rep.rep S1 v y → ∀ s H C cl fp, GTs (BX X scope s H C cl fp) ifs ((wipe σ [j]).set j (some v)) S1 (p y))
    (hf : ∀ y v S1, Same S S1 → y ∈ xs → p y = true → Rep.rep S1 v y → ∀ s H C cl fp, GE (BX X scope s H C cl fp) elt ((wipe σ [j]).set j (some v)) S1 (dt y))
    (hg : ∀ s H C cl fp, PG (BX X scope s H C cl fp) (.Name x tpos) (gName j) := by first | exact fun _ _ _ _ _ => pg_name (by assumption) rfl (Or.inl rfl) | exact fun _ _ _ _ _ => pg_name (by assumption) rfl (Or.inr rfl)) (hw : ∀ ws : List V, wipe ((wipe σ [j]).set j ws.head?) [j] = wipe σ [j] := by intro _; rfl)
    (hs : ∀ x, foldedSetIterable iter X.env x = pure x := by intro _; rfl) (eN : X.N = N := by rfl) (eS : X.env.scope = sc := by rfl) (ok : blkC N sc scope [(x, j)] = true := by decide +kernel) :
    GE X (.ListComp elt [⟨.Name x tpos, iter, ifs, 0⟩] scope pos) σ S (dt (xs.filter p)) :=
  Go.is (ge_lc (p := p) (f := fun y => y) N sc [(x, j)] hc hN hi hz hg (tgt_name j) hw
    (fun y ws S1 a b c s H C cl fp => by obtain ⟨v, _, rfl, hv, rfl⟩ := c; exact hp y v S1 a b hv s H C cl fp)
    (fun y ws S1 a b b2 c s H C cl fp => by obtain ⟨v, _, rfl, hv, rfl⟩ := c; exact hf y v S1 a b b2 hv s H C cl fp) hs eN eS ok) (by rw [List.map_id'])
/-- [e for x in it] -/
theorem ge_map (N : List Str) (sc : Scope) (j : Nat) (f : α → β) (hc : X.calm = true) (hN : X.N.Nodup) (hi : GI X (.Name x tpos) iter σ S xs) (hz : xs.length ≤ most)
    (hf : ∀ y v S1, Same S S1 → y ∈ xs → Rep.rep S1 v y → ∀ s H C cl fp, GE (BX X scope s H C cl fp) elt ((wipe σ [j]).set j (some v)) S1 (dt (f y)))
    (hg : ∀ s H C cl fp, PG (BX X scope s H C cl fp) (.Name x tpos) (gName j) := by first | exact fun _ _ _ _ _ => pg_name (by assumption) rfl (Or.inl rfl) | exact fun _ _ _ _ _ => pg_name (by assumption) rfl (Or.inr rfl)) (hw : ∀ ws : List V, wipe ((wipe σ [j]).set j ws.head?) [j] = wipe σ [j] := by intro _; rfl)
    (hs : ∀ x, foldedSetIterable iter X.env x = pure x := by intro _; rfl) (eN : X.N = N := by rfl) (eS : X.env.scope = sc := by rfl) (ok : blkC N sc scope [(x, j)] = true := by decide +kernel) :
    GE X (.ListComp elt [⟨.Name x tpos, iter, [], 0⟩] scope pos) σ S (dt (xs.map f)) :=
  Go.is (ge_lc (p := fun _ => true) (f := f) N sc [(x, j)] hc hN hi hz hg (tgt_name j) hw
    (fun y ws S1 a b c s H C cl fp => gts_nil)
    (fun y ws S1 a b b2 c s H C cl fp => by obtain ⟨v, _, rfl, hv, rfl⟩ := c; exact hf y v S1 a b hv s H C cl fp) hs eN eS ok) (by rw [List.filter_eq_self.mpr fun _ _ => rfl])
end
end Cp
namespace Cp
open PySem PySem.Spec PyProof.Rows L2
section
variable {X : Cx} {σ : L2.St} {S : Hp} {e a b c : Expr} {es rest : List Expr} {r r1 r2 : Rl} {pos : Pos} {k : Bool} {α β γ : Type} [Rep α] [Rep β] [Rep γ]
theorem cast_rep {x y : α} {S : Hp} {v : V} (e : x = y) (h : Rep.rep S v x) : Rep.rep S v y := e ▸ h
theorem cond_t {c : Bool} {x y : α} (h : c = true) : x = cond c x y := by rw [h]; rfl
theorem cond_f {c : Bool} {x y z : α} (h : c = false) (e : z = y) : z = cond c x y := by rw [h]; exact e
/-! places -/
def gat [Inhabited α] (xs : List α) (i : Nat) : α := xs.getD i default
theorem gat_at [Inhabited α] {xs : List α} {i : Nat} (h : i < xs.length) : xs[i]? = some (gat xs i) := by
  unfold gat
  rw [List.getElem?_eq_getElem h, List.getD_eq_getElem?_getD, List.getElem?_eq_getElem h]; rfl
instance : Inhabited Str := ⟨Str.empty⟩
theorem ge_ix' [Inhabited α] {xs : List α} {j : Nat} (ha : GE X a σ S (dt xs)) (hb : GE X b σ S (dt (j : Int))) (hx : j < xs.length) (hs : PlainIx b := by exact fun _ _ => rfl) : GE X (.Subscript a b pos) σ S (dt (gat xs j)) := ge_ix ha hb (gat_at hx) hs
theorem ge_ixI [Inhabited α] {xs : List α} {i : Int} (ha : GE X a σ S (dt xs)) (hb : GE X b σ S (dt i)) (hx : 0 ≤ i ∧ i.toNat < xs.length) (hs : PlainIx b := by exact fun _ _ => rfl) : GE X (.Subscript a b pos) σ S (dt (gat xs i.toNat)) :=
  ge_ix (j := i.toNat) ha (Go.is hb (by rw [Int.toNat_of_nonneg hx.1])) (gat_at hx.2) hs
theorem ge_to' {xs : List α} {i : Int} {p2 : Pos} (ha : GE X a σ S (dt xs)) (hb : GE X b σ S (dt i)) (hx : 0 ≤ i) : GE X (.Subscript a (.Slice none (some b) none p2) pos) σ S (dt (xs.take i.toNat)) :=
  ge_to (j := i.toNat) ha (Go.is hb (by rw [Int.toNat_of_nonneg hx]))
theorem ge_cond {x y : α} (h : GT X c σ S k) (h1 : k = true → GE X a σ S (dt x)) (h2 : k = false → GE X b σ S (dt y)) : GE X (.IfExp c a b pos) σ S (dt (cond k x y)) := by
  refine ge_ifExp h (fun z => ?_) (fun z => ?_)
  · subst z; exact h1 rfl
  · subst z; exact h2 rfl
/-- line[0], line[1], line[2] -/
theorem opd_lnix {ln : Ln} {j : Nat} {β : Type} [Rep β] {x : β} (hx : ∀ S v1 v2 v3, Rep.rep S v1 ln.word → Rep.rep S v2 ln.lot → Rep.rep S v3 ln.who → ∃ v, [v1, v2, v3][j]? = some v ∧ Rep.rep S v x) : OpD (rIxT X.K) (dt ln) (dt (j : Int)) (dt x) S := fun S1 H1 v w _ d hv hw Q q => by
  obtain ⟨p, v1, v2, v3, rfl, hp, h1, h2, h3⟩ := hv
  obtain ⟨y, hy, hr⟩ := hx S1 v1 v2 v3 h1 h2 h3
  exact ⟨p, _, (j : Int), y, rfl, hw, SqT.of (d _ _ hp), atI_nat hy, q _ S1 H1 (Fp.refl d) hr⟩
theorem ge_lnix0 {ln : Ln} {j} {p : Pos} (ha : GE X a σ S (dt ln)) (hs : PlainIx (.Constant (.int 0) j p) := by exact fun _ _ => rfl) : GE X (.Subscript a (.Constant (.int 0) j p) pos) σ S (dt ln.word) :=
  ge_of (pe_ix ix_tup wE.pe wE.pe hs) (go_op ha (ge_int (i := ((0 : Nat) : Int))) (opd_lnix (j := 0) fun _ v1 _ _ h1 _ _ => ⟨v1, rfl, h1⟩))
theorem ge_lnix1 {ln : Ln} {j} {p : Pos} (ha : GE X a σ S (dt ln)) (hs : PlainIx (.Constant (.int 1) j p) := by exact fun _ _ => rfl) : GE X (.Subscript a (.Constant (.int 1) j p) pos) σ S (dt ln.lot) :=
  ge_of (pe_ix ix_tup wE.pe wE.pe hs) (go_op ha (ge_int (i := ((1 : Nat) : Int))) (opd_lnix (j := 1) fun _ _ v2 _ _ h2 _ => ⟨v2, rfl, h2⟩))
theorem ge_lnix2 {ln : Ln} {j} {p : Pos} (ha : GE X a σ S (dt ln)) (hs : PlainIx (.Constant (.int 2) j p) := by exact fun _ _ => rfl) : GE X (.Subscript a (.Constant (.int 2) j p) pos) σ S (dt ln.who) :=
  ge_of (pe_ix ix_tup wE.pe wE.pe hs) (go_op ha (ge_int (i := ((2 : Nat) : Int))) (opd_lnix (j := 2) fun _ _ _ v3 _ _ h3 => ⟨v3, rfl, h3⟩))
theorem ge_listT' {x : Tp α} {p : Pos} (hm : X.mg "list" = none) (h : GE X e σ S (dt x)) (hg : Gl X "list" := by rfl) (hs : starEach [e] X.env = (false, eval e X.env) :: starEach [] X.env := by rfl) (hpl : (backTo pos (starEach [] X.env)).any (·.1) = false := by rfl) : GE X (.Call (.Name "list" p) [e] [] pos) σ S (dt x.l) :=
  ge_listT hm (show GE X e σ S (dt (⟨x.l⟩ : Tp α)) from h) hg hs hpl
theorem ge_slen' {x : Str} {p : Pos} (hm : X.mg "len" = none) (h : GE X e σ S (dt x)) (hg : Gl X "len" := by rfl) (hs : starEach [e] X.env = (false, eval e X.env) :: starEach [] X.env := by rfl) (hpl : (backTo pos (starEach [] X.env)).any (·.1) = false := by rfl) :
    GE X (.Call (.Name "len" p) [e] [] pos) σ S (dt (x.length : Int)) := ge_slen hm h hg hs hpl
theorem reps_ints {H : Hp} : ∀ {vs : List V} {ns : List Int}, Reps H vs ns → vs = ns.map V.int
  | _, _, .nil => rfl
  | _, _, .cons r t => by rw [List.map_cons, ← reps_ints t]; congr 1
theorem ge_sum {ns : List Int} {p : Pos} (hm : X.mg "sum" = none) (h : GE X e σ S (dt ns)) (hc : X.calm = true := by rfl) (hg : Gl X "sum" := by rfl) (hs : starEach [e] X.env = (false, eval e X.env) :: starEach [] X.env := by rfl) (hpl : (backTo pos (starEach [] X.env)).any (·.1) = false := by rfl) :
    GE X (.Call (.Name "sum" p) [e] [] pos) σ S (dt ns.sum) :=
  ge_of (pe_callB (cr_sum hc) hg hm boot_sum' (pa_cons wE.pe pa_nil hs) (by decide) (by decide) hs hpl) (go_cb (ga_cons h ga_nil) fun S1 H1 vs _ d hv Q q => by
    obtain ⟨v, _, rfl, ⟨p, ws, rfl, hp, hl, hr⟩, rfl⟩ := hv
    exact ⟨p, ns, rfl, by rw [← reps_ints hr]; exact SqL.of (d _ _ hp), q _ S1 H1 (Fp.refl d) rfl⟩)
/-- xs.index(y) -/
def place [DecidableEq α] (xs : List α) (y : α) : Nat := xs.findIdx fun z => decide (z = y)
theorem place_at [DecidableEq α] {xs : List α} {y : α} (h : y ∈ xs) : xs[place xs y]? = some y ∧ ∀ m z, m < place xs y → xs[m]? = some z → z ≠ y := by
  have hlt : place xs y < xs.length := List.findIdx_lt_length_of_exists ⟨y, h, decide_eq_true rfl⟩
  refine ⟨?_, fun m z hm hz e => ?_⟩
  · rw [List.getElem?_eq_getElem hlt]
    have h1 := List.findIdx_getElem (p := fun z => decide (z = y)) (w := hlt)
    exact congrArg some (of_decide_eq_true h1)
  · have h2 := List.not_of_lt_findIdx (p := fun z => decide (z = y)) (xs := xs) hm
    have hml : m < xs.length := Nat.lt_trans hm hlt
    rw [List.getElem?_eq_getElem hml] at hz
    rw [Option.some.inj hz, e] at h2
    simp at h2
theorem ge_index [DecidableEq α] {xs : List α} {y : α} {n : Nat} {ap cp : Pos} (hr : Room n X.A) (ha : GE X a σ S (dt xs)) (hb : GE X b σ S (dt y)) (hm : y ∈ xs) (hz : Rep.dep α ≤ 32 := by decide)
    (hbase : attributeBase a "index" X.env (eval a X.env) = eval a X.env := by rfl)
    (hfew : ((backTo cp (starEach [b] X.env)).all (fun x => !x.1) && (backToKw cp (keywordEach [] X.env)).all (fun x => x.1.isSome)
      && decide ([b].length + ([] : List Keyword).length + (if ([] : List Keyword).isEmpty then 0 else 1) < 30)) = true := by rfl)
    (hline : (ap.endLine == cp.line) = true := by rfl) (hs : starEach [b] X.env = (false, eval b X.env) :: starEach [] X.env := by rfl) (hplain : (backTo cp (starEach [] X.env)).any (·.1) = false := by rfl) : GE X (.Call (.Attribute a "index" ap) [b] [] cp) σ S (dt (place xs y : Int)) :=
  ge_of (pe_bm PySem.F.plainAttrs_list PySem.F.slot_list_index PySem.F.type_list_index (mt_indexD (units65 hr)) wE.pe (pa_cons wE.pe pa_nil hs) hbase hfew hline hs hplain) fun S1 H1 c d Q q => ha S1 H1 c d _ fun v S2 H2 f hv => by
    obtain ⟨p, ws, rfl, hp, hl, hr2⟩ := id hv
    refine ⟨.inl ⟨rfl, ws, SqL.of (f.sh _ _ hp)⟩, hb S2 H2 (c.trans f.ss) f.sh _ fun w S3 H3 f3 hw => ?_⟩
    obtain ⟨h1, h2⟩ := place_at hm
    have hv3 := Rep.mono f3.ss hv
    refine ⟨p, w, Rep.enc y, xs.map Rep.enc, place xs y, Rep.enc y, rfl, rfl, Rep.dp (Rep.mono f3.sh hv3), Rep.dp (Rep.mono f3.sh hw), Rep.shaped (Nat.le_trans (Nat.succ_le_succ hz) (by decide)) hv3, Rep.shaped (Nat.le_trans hz (by decide)) hw, ?_, ?_, ?_, q _ S3 H3 (f.trans f3) rfl⟩
    · rw [List.getElem?_map, h1]; rfl
    · exact (Rep.eqv y y).mpr rfl
    · intro m z hm' hz'
      rw [List.getElem?_map] at hz'
      cases e : xs[m]? with
      | none => rw [e] at hz'; cases hz'
      | some z0 =>
        rw [e] at hz'
        have e2 : Rep.enc z0 = z := Option.some.inj hz'
        rw [← e2, Rep.eqd]
        exact decide_eq_false (h2 m z0 hm' e)
theorem gi_range' {i : Int} {tg : Expr} {p : Pos} (hm : X.mg "range" = none) (h : GE X e σ S (dt i)) (h0 : 0 ≤ i) (hz : i.toNat ≤ most) (hg : Gl X "range" := by rfl) (hs : starEach [e] X.env = [(false, eval e X.env)] := by rfl) :
    GI X tg (.Call (.Name "range" p) [e] [] pos) σ S (upto i.toNat) := gi_range hm (Go.is h (by rw [Int.toNat_of_nonneg h0])) hz hg hs
/-! signs -/
def inSign (y z : Str) : Bool := decide (y ∈ signs z)
theorem sg_of {y z : Str} (h : y ∈ signs z) : ∃ c, y = sg c := by
  unfold signs at h
  obtain ⟨c, _, e⟩ := List.mem_map.mp h
  exact ⟨c, e.symm⟩
theorem sg_mem {c : Nat} {z : Str} : decide (c ∈ z.cps.toList) = inSign (sg c) z := by
  unfold inSign signs
  refine Bool.eq_iff_iff.mpr ?_
  rw [decide_eq_true_iff, decide_eq_true_iff, List.mem_map]
  refine ⟨fun h => ⟨c, h, rfl⟩, fun ⟨c', h, e⟩ => ?_⟩
  have e2 : c' = c := by
    have e3 : (#[c'] : Array Nat) = #[c] := congrArg Str.cps e
    simpa using e3
  rw [← e2]; exact h
theorem gt_niSign {y z : Str} (ha : GE X a σ S (dt y)) (hb : GE X b σ S (dt z)) (h : ∃ c, y = sg c) (hm : behindInMarks .NotIn b = false := by rfl) : GT X (.Compare a [.NotIn] [b] pos) σ S (!inSign y z) := by
  obtain ⟨c, rfl⟩ := h
  exact gt_cmp op_notIn_sign ha hb (fun S1 H1 v w _ d hv hw Q q => ⟨c, z, hv.1, hw.1, q _ S1 H1 (Fp.refl d) (by rw [sg_mem]; rfl)⟩) hm
/-- x not in ('..', '..') -/
theorem eqV_str (y z : Str) : eqV (.str y) (.str z) = decide (y = z) := by
  unfold eqV
  by_cases h : y = z
  · subst h; simp
  · rw [decide_eq_false h]; exact beq_eq_false_iff_ne.mpr h
theorem gt_niT2 {y z1 z2 : Str} {j1 j2 p1 p2 p3 x1} (ha : GE X a σ S (dt y)) (hm : behindInMarks .NotIn (.Tuple [.Constant (.str z1) j1 p1, .Constant (.str z2) j2 p2] x1 p3) = false := by rfl)
    (hs : starEach [(.Constant (.str z1) j1 p1), (.Constant (.str z2) j2 p2)] X.env = (false, eval (.Constant (.str z1) j1 p1) X.env) :: starEach [(.Constant (.str z2) j2 p2)] X.env := by rfl)
    (hs2 : starEach [(.Constant (.str z2) j2 p2)] X.env = (false, eval (.Constant (.str z2) j2 p2) X.env) :: starEach [] X.env := by rfl) :
    GT X (.Compare a [.NotIn] [.Tuple [.Constant (.str z1) j1 p1, .Constant (.str z2) j2 p2] x1 p3] pos) σ S (!decide (y ∈ [z1, z2])) :=
  gt_of (pt_cmpR op_notIn_seq wE.pe (pe_tup (pa_cons pe_str (pa_cons pe_str pa_nil hs2) hs)) hm) fun S1 H1 c d Q q => ha S1 H1 c d _ fun v S2 H2 f hv => by
    obtain ⟨rfl, _⟩ := hv
    refine ⟨(by show 2 ≤ sizeLine; decide), fun p hp => ?_⟩
    have n := Fp.newH (o := .tup [.str z1, .str z2]) f.sh hp
    refine ⟨p, [.str z1, .str z2], rfl, .inr (SqT.of upd_same), rfl, rfl, _, rfl, ?_⟩
    have e : (!inV (.str y) [.str z1, .str z2]) = (!decide (y ∈ [z1, z2])) := by
      unfold inV
      rw [List.any_cons, List.any_cons, List.any_nil, eqV_str, eqV_str, Bool.or_false]
      by_cases h1 : z1 = y
      · subst h1; simp
      · by_cases h2 : z2 = y
        · subst h2; simp
        · have h3 : y ≠ z1 := fun e => h1 e.symm
          have h4 : y ≠ z2 := fun e => h2 e.symm
          simp [h1, h2, h3, h4]
    show Q (!inV (.str y) [.str z1, .str z2]) _
    rw [e]
    exact q S2 _ (f.trans n)
/-! ### isinstance -/
theorem boot_str' : bootBuiltins "str" = some (.type "str") := by decide +kernel
theorem kit_str : kitB "str" "str" = some true := by decide +kernel
theorem kit_list : kitB "list" "list" = some true := by decide +kernel
theorem kit_tuple : kitB "tuple" "tuple" = some true := by decide +kernel
theorem ge_isi {T : Str} {t : String} {p p2 : Pos} (hm : X.mg "isinstance" = none) (hm2 : X.mg T = none) (hv : bootBuiltins T = some (.type t)) (hk : kitB t t = some true) (hty : ∀ S H v, r.p S v → Same S H → TyX X.K H v (.type t)) (h : GE X e σ S r) (hg : Gl X "isinstance" := by rfl) (hg2 : Gl X T := by rfl)
    (hn : T ≠ "__name__" := by decide) (hd : (T == ("__debug__" : Str)) = false := by decide)
    (hs : starEach [e, .Name T p2] X.env = (false, eval e X.env) :: starEach [.Name T p2] X.env := by rfl) (hs2 : starEach [.Name T p2] X.env = (false, eval (.Name T p2) X.env) :: starEach [] X.env := by rfl) (hpl : (backTo pos (starEach [.Name T p2] X.env)).any (·.1) = false := by rfl) :
    GE X (.Call (.Name "isinstance" p) [e, .Name T p2] [] pos) σ S (dt true) :=
  ge_of (pe_callB call_isi hg hm boot_isinstance' (pa_cons wE.pe (pa_cons (pe_bltn (v := .ty t) hg2 hm2 hv rfl hn hd) pa_nil hs2) hs) (by decide) (by decide) hs hpl) fun S1 H1 c d Q q => h S1 H1 c d _ fun v S2 H2 f hv =>
    ⟨v, .ty t, .type t, .type t, true, rfl, .ty t, hty S2 H2 v hv f.sh, kit_ty hk, q _ S2 H2 f rfl⟩
theorem ge_isi_str {x : Str} {p p2 : Pos} (hm : X.mg "isinstance" = none) (hm2 : X.mg "str" = none) (h : GE X e σ S (dt x)) (hg : Gl X "isinstance" := by rfl) (hg2 : Gl X "str" := by rfl)
    (hs : starEach [e, .Name "str" p2] X.env = (false, eval e X.env) :: starEach [.Name "str" p2] X.env := by rfl) (hs2 : starEach [.Name "str" p2] X.env = (false, eval (.Name "str" p2) X.env) :: starEach [] X.env := by rfl) (hpl : (backTo pos (starEach [.Name "str" p2] X.env)).any (·.1) = false := by rfl) :
    GE X (.Call (.Name "isinstance" p) [e, .Name "str" p2] [] pos) σ S (dt true) :=
  ge_isi hm hm2 boot_str' kit_str (fun S H v hv _ => by obtain ⟨rfl, _⟩ := hv; exact .base (.str x)) h hg hg2 (by decide) (by decide) hs hs2 hpl
theorem ge_isi_list {xs : List α} {p p2 : Pos} (hm : X.mg "isinstance" = none) (hm2 : X.mg "list" = none) (h : GE X e σ S (dt xs)) (hg : Gl X "isinstance" := by rfl) (hg2 : Gl X "list" := by rfl)
    (hs : starEach [e, .Name "list" p2] X.env = (false, eval e X.env) :: starEach [.Name "list" p2] X.env := by rfl) (hs2 : starEach [.Name "list" p2] X.env = (false, eval (.Name "list" p2) X.env) :: starEach [] X.env := by rfl) (hpl : (backTo pos (starEach [.Name "list" p2] X.env)).any (·.1) = false := by rfl) :
    GE X (.Call (.Name "isinstance" p) [e, .Name "list" p2] [] pos) σ S (dt true) :=
  ge_isi hm hm2 boot_list' kit_list (fun S H v hv hS => by obtain ⟨p, vs, rfl, hp, _⟩ := hv; exact .base (.lst (hS _ _ hp))) h hg hg2 (by decide) (by decide) hs hs2 hpl
theorem ge_isi_tuple {x : Ln} {p p2 : Pos} (hm : X.mg "isinstance" = none) (hm2 : X.mg "tuple" = none) (h : GE X e σ S (dt x)) (hg : Gl X "isinstance" := by rfl) (hg2 : Gl X "tuple" := by rfl)
    (hs : starEach [e, .Name "tuple" p2] X.env = (false, eval e X.env) :: starEach [.Name "tuple" p2] X.env := by rfl) (hs2 : starEach [.Name "tuple" p2] X.env = (false, eval (.Name "tuple" p2) X.env) :: starEach [] X.env := by rfl) (hpl : (backTo pos (starEach [.Name "tuple" p2] X.env)).any (·.1) = false := by rfl) :
    GE X (.Call (.Name "isinstance" p) [e, .Name "tuple" p2] [] pos) σ S (dt true) :=
  ge_isi hm hm2 boot_tuple' kit_tuple (fun S H v hv hS => by obtain ⟨p, v1, v2, v3, rfl, hp, _⟩ := hv; exact .base (.tup (hS _ _ hp))) h hg hg2 (by decide) (by decide) hs hs2 hpl
/-- len(line) -/
theorem ge_lenLn {x : Ln} {p : Pos} (hm : X.mg "len" = none) (h : GE X e σ S (dt x)) (hg : Gl X "len" := by rfl) (hs : starEach [e] X.env = (false, eval e X.env) :: starEach [] X.env := by rfl) (hpl : (backTo pos (starEach [] X.env)).any (·.1) = false := by rfl) :
    GE X (.Call (.Name "len" p) [e] [] pos) σ S (dt (3 : Int)) :=
  ge_of (pe_callB call_len_seq hg hm boot_len (pa_cons wE.pe pa_nil hs) (by decide) (by decide) hs hpl) (go_cb (ga_cons h ga_nil) fun S1 H1 vs _ d hv Q q => by
    obtain ⟨v, _, rfl, ⟨p, v1, v2, v3, rfl, hp, _⟩, rfl⟩ := hv
    exact ⟨p, _, rfl, .inr (SqT.of (d _ _ hp)), q _ S1 H1 (Fp.refl d) rfl⟩)
end
section
variable {X : Cx} {σ : L2.St} {S : Hp} {elt iter : Expr} {ifs : List Expr} {scope : Scope} {pos tpos : Pos} {α β γ : Type} [Rep α] [Rep β] [Rep γ] {xs : List α} {x : Str}
/-- [e for x in it if t] -/
theorem ge_fm (N : List Str) (sc : Scope) (j : Nat) (p : α → Bool) (f : α → β) (hc : X.calm = true) (hN : X.N.Nodup) (hi : GI X (.Name x tpos) iter σ S xs) (hz : xs.length ≤ most)
    (hp : ∀ y v S1, Same S S1 → y ∈ xs → Rep.rep S1 v y → ∀ s H C cl fp, GTs (BX X scope s H C cl fp) ifs ((wipe σ [j]).set j (some v)) S1 (p y))
    (hf : ∀ y v S1, Same S S1 → y ∈ xs → p y = true → Rep.rep S1 v y → ∀ s H C cl fp, GE (BX X scope s H C cl fp) elt ((wipe σ [j]).set j (some v)) S1 (dt (f y)))
    (hg : ∀ s H C cl fp, PG (BX X scope s H C cl fp) (.Name x tpos) (gName j) := by first | exact fun _ _ _ _ _ => pg_name (by assumption) rfl (Or.inl rfl) | exact fun _ _ _ _ _ => pg_name (by assumption) rfl (Or.inr rfl)) (hw : ∀ ws : List V, wipe ((wipe σ [j]).set j ws.head?) [j] = wipe σ [j] := by intro _; rfl)
    (hs : ∀ x, foldedSetIterable iter X.env x = pure x := by intro _; rfl) (eN : X.N = N := by rfl) (eS : X.env.scope = sc := by rfl) (ok : blkC N sc scope [(x, j)] = true := by decide +kernel) :
    GE X (.ListComp elt [⟨.Name x tpos, iter, ifs, 0⟩] scope pos) σ S (dt ((xs.filter p).map f)) :=
  ge_lc (p := p) (f := f) N sc [(x, j)] hc hN hi hz hg (tgt_name j) hw
    (fun y ws S1 a b c s H C cl fp => by obtain ⟨v, _, rfl, hv, rfl⟩ := c; exact hp y v S1 a b hv s H C cl fp)
    (fun y ws S1 a b b2 c s H C cl fp => by obtain ⟨v, _, rfl, hv, rfl⟩ := c; exact hf y v S1 a b b2 hv s H C cl fp) hs eN eS ok
/-- [e for x, y in it if t] -/
theorem ge_fmP {x y : Str} {tx ty tt : Pos} {kk : Nat} {xs : List (α × β)} (N : List Str) (sc : Scope) (i j : Nat) (p : α × β → Bool) (f : α × β → γ) (hc : X.calm = true) (hN : X.N.Nodup) (hi : GI X (.Tuple [.Name x tx, .Name y ty] kk tt) iter σ S xs) (hz : xs.length ≤ most)
    (hp : ∀ y v w S1, Same S S1 → y ∈ xs → Rep.rep S1 v y.1 → Rep.rep S1 w y.2 → ∀ s H C cl fp, GTs (BX X scope s H C cl fp) ifs (((wipe σ [i, j]).set i (some v)).set j (some w)) S1 (p y))
    (hf : ∀ y v w S1, Same S S1 → y ∈ xs → p y = true → Rep.rep S1 v y.1 → Rep.rep S1 w y.2 → ∀ s H C cl fp, GE (BX X scope s H C cl fp) elt (((wipe σ [i, j]).set i (some v)).set j (some w)) S1 (dt (f y)))
    (hg : ∀ s H C cl fp, PG (BX X scope s H C cl fp) (.Tuple [.Name x tx, .Name y ty] kk tt) (gTup X.K 2 (gCons (gName i) (gCons (gName j) gNil))) := by exact fun _ _ _ _ _ => pg_tup rfl (pgs_cons (pg_name (by assumption) rfl (by first | exact Or.inl rfl | exact Or.inr rfl)) (pgs_cons (pg_name (by assumption) rfl (by first | exact Or.inl rfl | exact Or.inr rfl)) pgs_nil)))
    (hw : ∀ ws : List V, wipe (((wipe σ [i, j]).set i ws.head?).set j ws.tail.head?) [i, j] = wipe σ [i, j] := by intro _; rfl)
    (hs : ∀ x, foldedSetIterable iter X.env x = pure x := by intro _; rfl) (eN : X.N = N := by rfl) (eS : X.env.scope = sc := by rfl) (ok : blkC N sc scope [(x, i), (y, j)] = true := by decide +kernel) :
    GE X (.ListComp elt [⟨.Tuple [.Name x tx, .Name y ty] kk tt, iter, ifs, 0⟩] scope pos) σ S (dt ((xs.filter p).map f)) :=
  ge_lc (p := p) (f := f) N sc [(x, i), (y, j)] hc hN hi hz hg (tgt_pair i j) hw
    (fun y ws S1 a b c s H C cl fp => by obtain ⟨v, _, rfl, hv, w, _, rfl, hw, rfl⟩ := c; exact hp y v w S1 a b hv hw s H C cl fp)
    (fun y ws S1 a b b2 c s H C cl fp => by obtain ⟨v, _, rfl, hv, w, _, rfl, hw, rfl⟩ := c; exact hf y v w S1 a b b2 hv hw s H C cl fp) hs eN eS ok
end
end Cp
namespace Cp
open PySem PySem.Spec PyProof.Rows L2
/-- what the top has left -/
structure Top (K : PySem.W.Frag) (mg : Str → Option Value) : Prop where
  ex : ∃ h : Heap, K.In h ∧ h.Ns mainGlobals mg
  c : SaysM K
section
variable {K : PySem.W.Frag} {mg : Str → Option Value}
theorem Top.d (T : Top K mg) : He.SaysD dfa dfn K := congrArg Prod.snd T.c
theorem Top.fn (T : Top K mg) (i : Nat) {d : He.DefD} (hd : dfn[i]? = some d) (hj : dfa[i]? = some (.glo d.at_.1)) (hn : d.at_ = (d.at_.1, none)) : ∃ fd, FunD K d.name d.qual d.params d.body d.scope (d.dvs K) (d.kws K) (He.ga K d.at_.1) fd ∧ mg d.at_.1 = some (.ref (He.ga K d.at_.1)) := by
  obtain ⟨h, X, G⟩ := T.ex
  obtain ⟨fd, F⟩ := T.d.def_ i hd
  have e : He.fAd K d.at_ = He.ga K d.at_.1 := by rw [hn]; rfl
  rw [e] at F
  exact ⟨fd, F, He.glo_ok X G (T.d.fact i hj)⟩
theorem Top.free (T : Top K mg) (i : Nat) {x : Str} (h : dfa[i]? = some (.free x) := by rfl) : mg x = none := by
  obtain ⟨h', X, G⟩ := T.ex
  exact He.free_ok X G (T.d.fact i h)
theorem Top.letters (T : Top K mg) : ∃ t, mg "LETTERS" = some (.str "abcdefghijklmnopqrstuvwxyz" t) := by
  obtain ⟨h', X, G⟩ := T.ex
  exact He.str_ok X G (T.d.fact 74 rfl)
end
def letters : Str := "abcdefghijklmnopqrstuvwxyz"
theorem ge_letters {X : Cx} {σ : L2.St} {S : Hp} {pos : Pos} (T : Top X.K X.mg) (hg : Gl X "LETTERS" := by rfl) : GE X (.Name "LETTERS" pos) σ S (dt letters) := by
  obtain ⟨t, h⟩ := T.letters
  exact ge_of (C8.pe_gc (v := .str letters) hg ⟨_, h, t, rfl⟩) (go_c ⟨rfl, by decide +kernel⟩)
end Cp
namespace Cp
open PySem PySem.Spec PyProof.Rows L2
/-! ### set(list), told by what one add does -/
section
variable {pg : Program} {wd : World} {B : Around} {Rz : Result → Shared → Prop} {it : Addr} {fps wrs : List Addr} {Gs : Array GenState → Array GenState → Prop} {len : Nat} {Vl : Nat → Value → Prop} {Sx : Nat → Shared → Prop}
/-- what adding the i-th does -/
def AddsOne (pg : Program) (wd : World) (B : Around) (T : Addr) (len : Nat) (Vl : Nat → Value → Prop) (J : Nat → Heap → Prop) : Prop :=
  ∀ (i : Nat) (v : Value) (s : Shared) (E : Value → Shared → Prop) (Z : Shared → Prop), i < len → Vl i v → J i s.heap →
    (∀ hp tk, s.toks ≤ tk → Heap.SameBut T s.heap hp → J (i + 1) hp → Z { s with heap := hp, toks := tk }) → wpAny (model pg wd) B (setAdd T v) (fun _ z => Z z) E s
theorem gs_loop (W : WalksS pg wd B.in1 it fps wrs Gs len Vl Sx) (T : Addr) (nT : T ∉ fps) (J : Nat → Heap → Prop) (keep : ∀ i h hp, J i h → (∀ b o, b ∉ wrs → h.get? b = some o → hp.get? b = some o) → J i hp) (one : AddsOne pg wd B.in1 T len Vl J) :
    ∀ (d i : Nat) (s : Shared), d = len - i → i ≤ len → Sx i s → J i s.heap → (∀ z, Moved (T :: wrs) Gs s z → J len z.heap → Rz (.ok (.ret .none)) z) →
      codeAny (model pg wd) B (.builtin "set.update.loop" ⟨[.ref T, .ref it], []⟩) Rz s := by
  have nw : T ∉ wrs := fun q => nT (W.sub _ q)
  have up : ∀ x ∈ wrs, x ∈ T :: wrs := fun x q => List.mem_cons_of_mem T q
  intro d
  induction d with
  | zero =>
    intro i s e le sx j fin
    have : i = len := by omega
    subst this
    apply codeAny_builtin PyProof.Rows.F.entry_set_update_loop
    rw [Around.under_plainId PyProof.Rows.F.plain_set_update_loop]
    exact wpAny_bind (m := pyNext (.ref it)) (W.done s _ _ sx fun z mv => wpAny_pure (fin z (mv.mono up) (keep _ _ _ j mv.heap)))
  | succ d rec =>
    intro i s e le sx j fin
    have lt : i < len := by omega
    apply codeAny_builtin PyProof.Rows.F.entry_set_update_loop
    rw [Around.under_plainId PyProof.Rows.F.plain_set_update_loop]
    refine wpAny_bind (m := pyNext (.ref it)) (W.item i s _ _ lt sx fun v z pv sz mv => ?_)
    refine wpAny_bind (m := holding [v] (setAdd T v)) (wpAny_holding (one i v z _ _ lt pv (keep _ _ _ j mv.heap) fun hp tk le2 sb j2 => ?_))
    refine wpAny_pure ⟨plainId_quiet PyProof.Rows.F.plain_set_update_loop _, rec (i + 1) _ (by omega) lt (W.frame _ z hp tk sz le2 fun b q o g => ?_) j2 fun y my jy => ?_⟩
    · exact (sb.2 b fun c => nT (c ▸ q)).trans g
    · refine fin y (Moved.trans W.gtrans ((mv.mono up).then_heap le2 fun b o q g => ?_) my) jy
      exact (sb.2 b fun c => q (c ▸ List.mem_cons_self)).trans g
end
/-- the new, empty set -/
abbrev emptySet (led : Bool) : Obj := { cls := .type "set", dict := none, data := .set #[] 0 (.fresh 0 0 led) }
section
variable {pg : Program} {wd : World} {B : Around} {Ez : Value → Shared → Prop} {s : Shared}
theorem gs_call {l : Addr} {items : Array Value} {Qz : Value → Shared → Prop} (nh : B.handled = none) (hl : s.heap.IsList l items) (J : Nat → Heap → Prop)
    (start : ∀ led hp, led = !(wd.params.followText "set-order") → hp.get? s.heap.objs.size = some (emptySet led) → (∀ b o, s.heap.get? b = some o → hp.get? b = some o) → J 0 hp)
    (keep : ∀ i h hp, J i h → (∀ b o, b ∉ [s.heap.objs.size + 1] → h.get? b = some o → hp.get? b = some o) → J i hp)
    (one : AddsOne pg wd B.in1.in1.in1 s.heap.objs.size items.size (fun i v => items[i]? = some v) J)
    (fin : ∀ hp tk, J items.size hp → (∀ b o, b < s.heap.objs.size → s.heap.get? b = some o → hp.get? b = some o) → Qz (.ref s.heap.objs.size) { s with heap := hp, toks := tk }) :
    wpAny (model pg wd) B (call (.type "set") [.ref l]) Qz Ez s := by
  obtain ⟨cc, tt, hm⟩ := PySem.F.called_set.mro
  have f1 := PySem.F.called_set.made
  have f2 := PySem.F.called_set.sub
  apply wpAny_call
  apply codeAny_of_tree
  show wpAny _ _ (callAny (.type "set") _) _ _ _
  apply wpAny_pure
  refine ⟨Code.quiet_builtin _ (by decide +kernel), codeAny_builtin PySem.F.entry_type_call ?_⟩
  rw [Around.under_plain (weight_type_call_type "set" [.ref l] []) rfl]
  have f3 := PySem.F.called_set.notType
  have f4 := PySem.F.called_set.canCreate
  have f5 := PySem.F.typeCall_set_1 (.ref l)
  repeat (any_goals (first | assumption | wp_step))
  obtain ⟨led, hled⟩ : ∃ led : Bool, led = !(wd.params.followText "set-order") := ⟨_, rfl⟩
  obtain ⟨h0, hh0⟩ : ∃ h0 : Heap, h0 = s.heap.push (emptySet led) := ⟨_, rfl⟩
  have got : h0.get? s.heap.objs.size = some (emptySet led) := by rw [hh0]; exact Heap.get?_push_size _ rfl
  refine codeAny_mono (code_set_led1 (.ref l) (E := Ez) (Q₁ := fun ob z => ob = Value.ref s.heap.objs.size ∧ z = { s with heap := h0 }) ⟨rfl, by rw [hh0, hled]⟩) fun r z hr => ?_
  cases r with
  | error e => exact hr
  | ok fl =>
    cases fl with
    | next => exact hr.elim
    | brk => exact hr.elim
    | cont => exact hr.elim
    | ret ob =>
      obtain ⟨eo, ez⟩ := hr
      subst eo ez
      have tyT : Shared.TypeIs { s with heap := h0 } (.ref s.heap.objs.size) "set" := ⟨emptySet led, got, rfl⟩
      have f6 := PySem.F.called_set.init.lookup
      have f7 := PySem.F.called_set.init.bind (.ref s.heap.objs.size)
      repeat (any_goals (first | assumption | wp_step))
      refine codeAny_mono (codeAny_call_builtin (R := wants (fun r z => r = .none ∧ ∃ hp tk, z = { s with heap := hp, toks := tk } ∧ J items.size hp ∧ ∀ b o, b < s.heap.objs.size → s.heap.get? b = some o → hp.get? b = some o) Ez)
        PySem.F.called_set.init.plain PySem.F.entry_set_init (check_set_init_1 tyT ?init)) fun r2 z2 hr2 => ?back
      case init =>
        have old : ∀ b o, s.heap.get? b = some o → h0.get? b = some o := fun b o g => by rw [hh0]; exact Heap.get?_push_of_some _ g
        have sz0 : h0.objs.size = s.heap.objs.size + 1 := by rw [hh0, Heap.size_push]
        obtain ⟨⟨k1, k2, k3, k4⟩, ho, kc, nl, kd⟩ := hl
        have kc : k1 = .type "list" := kc
        have kd : k3 = .seq items nl := kd
        subst kc kd
        have ll : l < s.heap.objs.size := Heap.lt_size ho
        have ho1 := old _ _ ho
        have g1 := PySem.F.sub_list_set
        have g2 := PySem.F.sub_list_frozenset
        have g3 : (Value.type "list" == Value.type "dict") = false := by decide
        have isl : h0.IsList l items := ⟨_, ho1, rfl, nl, rfl⟩
        unfold Builtin.«set.__init__» noKeywords Builtin.Frozenset.updateFrom
        generalize ePI : pyIter = fI
        wp_walk
        subst ePI
        refine wpAny_pyIter_list isl (wpAny_bind (wpAny_runValue ?_))
        have n1 : l ≠ h0.objs.size := by rw [sz0]; exact Nat.ne_of_lt (Nat.lt_succ_of_lt ll)
        have n2 : s.heap.objs.size ∉ [h0.objs.size, l] := fun q => by
          rcases List.mem_cons.mp q with z | z
          · rw [sz0] at z; exact absurd z (Nat.ne_of_lt (Nat.lt_succ_self _))
          · exact absurd (List.mem_singleton.mp z) (Nat.ne_of_gt ll)
        refine gs_loop (Walks.list (show B.in1.in1.in1.handled = none by simp [nh]) _ l n1 items).toS s.heap.objs.size n2 J (fun i h hp j q => keep i h hp j fun b o c g => q b o (by rw [sz0]; exact c) g) one (items.size - 0) 0 _ rfl (Nat.zero_le _) ⟨⟨_, Heap.get?_push_size _ rfl, rfl, rfl⟩, isl.push _⟩
          (start led _ hled (Heap.get?_push_of_some _ got) fun b o g => Heap.get?_push_of_some _ (old b o g)) fun z mv jz => ?_
        obtain ⟨zh, zg, zd, zt, zo⟩ := z
        have a1 : zg = s.gens := mv.gens
        have a2 : zd = s.drawn := mv.drawn
        have a3 : zo = s.os := mv.os
        subst a1 a2 a3
        show wpAny _ _ _ _ _ _
        refine wpAny_pure (wpAny_pure ⟨rfl, zh, zt, rfl, jz, fun b o lb g => mv.heap b o (fun q => ?_) (Heap.get?_push_of_some _ (old b o g))⟩)
        rcases List.mem_cons.mp q with c | c
        · exact Nat.ne_of_lt lb c
        · have d := List.mem_singleton.mp c
          rw [sz0] at d
          exact absurd d (Nat.ne_of_lt (Nat.lt_succ_of_lt lb))
      case back =>
        cases r2 with
        | error e => exact hr2
        | ok fl2 =>
          cases fl2 with
          | next => exact hr2.elim
          | brk => exact hr2.elim
          | cont => exact hr2.elim
          | ret u =>
            obtain ⟨eu, hp, tk, ez2, jj, kk⟩ := hr2
            subst eu ez2
            repeat (any_goals (first | assumption | wp_step))
            exact fin hp tk jj kk
end
end Cp
namespace Cp
open PySem PySem.Spec PyProof.Rows L2
/-! ### tuples of texts as members of a set -/
/-- at b lies a tuple of these texts -/
abbrev TxAt (P : Program) (w : World) (h : Heap) (k : List Str) (b : Addr) : Prop := IsTupleKey (PySem.strKind P w) h k b
abbrev txHash (P : Program) (w : World) (k : List Str) : Int := tupleKeyHash (PySem.strKind P w) k
section
variable {P : Program} {w : World} {B : Around} {Ez : Value → Shared → Prop} {s : Shared}
def allTx (vs : List Value) : Prop := ∀ v ∈ vs, ∃ x t, v = Value.str x t
theorem tx_items {k : List Str} {vs : List Value} (h : PySem.ItemsAre (PySem.strKind P w) k vs) : allTx vs := by
  induction h with
  | nil => exact fun _ z => nomatch z
  | @cons y v ys us hv _ rec =>
    intro u hu
    rcases List.mem_cons.mp hu with rfl | z
    · have e : u.isStrOf y = true := hv
      cases u <;> simp [Value.isStrOf] at e
      exact ⟨_, _, rfl⟩
    · exact rec u z
theorem tx_noStatement (n : Nat) (x : Str) (t : Tok) : ofAClassStatement n (.str x t) = pure false := by cases n <;> rfl
theorem tx_byValue (n : Nat) (x : Str) (t : Tok) : hashByValue n (.str x t) = pure false := by cases n <;> rfl
/-- no statement of a class made such a tuple -/
theorem tx_ofAClass {k : List Str} {b : Addr} {Z : Bool → Shared → Prop} (hk : TxAt P w s.heap k b) (z : Z false s) : wpAny (model P w) B (ofAClassStatement 8 (.ref b)) Z Ez s := by
  have ty := hk.typeIs
  obtain ⟨o, its, n, ho, _, hd, hi⟩ := hk
  have all := tx_items hi
  unfold ofAClassStatement
  refine wpAny_bind (wpAny_typeOf ty ?_)
  simp only [show (("tuple" : String) == "tuple") = true from by decide, if_true]
  refine wpAny_bind (wpAny_pure ?_)
  simp only [Bool.not_true, Bool.false_eq_true, if_false]
  refine wpAny_bind (wpAny_seqItems ho hd (wpAny_bind ?_))
  show wpAny _ _ (forIn its _ _) _ _ s
  rw [← Array.forIn_toList]
  apply wpAny_forIn_list _ (fun more r z' => r.1 = none ∧ z' = s ∧ allTx more) _ ?step ?stop _ _ ⟨rfl, rfl, all⟩
  case step =>
    intro v more r z' q
    obtain ⟨_, e, am⟩ := q
    subst e
    obtain ⟨x, t, ev⟩ := am v List.mem_cons_self
    subst ev
    rw [tx_noStatement]
    refine wpAny_bind (wpAny_pure ?_)
    simp only [Bool.false_eq_true, if_false]
    exact wpAny_pure ⟨rfl, rfl, fun u hu => am u (List.mem_cons_of_mem _ hu)⟩
  case stop =>
    rintro ⟨r1, r2⟩ z' ⟨e1, e2, _⟩
    have e1 : r1 = none := e1
    subst e1 e2
    exact wpAny_pure z
/-- whether its hash is known by value: some answer -/
theorem tx_hashBy {k : List Str} {b : Addr} {Z : Bool → Shared → Prop} (hk : TxAt P w s.heap k b) (z : ∀ c, Z c s) : wpAny (model P w) B (hashByValue 8 (.ref b)) Z Ez s := by
  have ty := hk.typeIs
  obtain ⟨o, its, n, ho, _, hd, hi⟩ := hk
  have all := tx_items hi
  unfold hashByValue
  refine wpAny_bind (wpAny_specialOf ty PySem.F.slot_tuple_hash.lookup ?_)
  show wpAny _ _ (seqItems? (.ref b) >>= _) _ _ s
  refine wpAny_bind (wpAny_seqItems ho hd (wpAny_bind ?_))
  show wpAny _ _ (forIn its _ _) _ _ s
  rw [← Array.forIn_toList]
  apply wpAny_forIn_list _ (fun more r z' => r.1 = none ∧ z' = s ∧ allTx more) _ ?step ?stop _ _ ⟨rfl, rfl, all⟩
  case step =>
    intro v more r z' q
    obtain ⟨_, e, am⟩ := q
    subst e
    obtain ⟨x, t, ev⟩ := am v List.mem_cons_self
    subst ev
    rw [tx_byValue]
    refine wpAny_bind (wpAny_pure ?_)
    simp only [Bool.not_false, if_true]
    first | exact wpAny_pure (wpAny_pure (z _)) | exact wpAny_pure (z _)
  case stop =>
    rintro ⟨r1, r2⟩ z' ⟨e1, e2, _⟩
    have e1 : r1 = none := e1
    subst e1 e2
    exact wpAny_pure (z _)
/-- a search among such tuples shows nothing -/
theorem tx_seen {k : List Str} {b : Addr} {Z : Bool → Shared → Prop} (hk : TxAt P w s.heap k b) {ys : List Value} (hy : ∀ y ∈ ys, ∃ q c, y = Value.ref c ∧ TxAt P w s.heap q c) (z : Z false s) : wpAny (model P w) B (searchCouldBeSeen (.ref b) ys) Z Ez s := by
  unfold searchCouldBeSeen
  apply wpAny_bind
  apply wpAny_forIn_list _ (fun more r z' => r.1 = none ∧ z' = s ∧ ∀ y ∈ more, ∃ q c, y = Value.ref c ∧ TxAt P w s.heap q c) _ ?step ?stop _ _ ⟨rfl, rfl, hy⟩
  case stop =>
    rintro ⟨r1, r2⟩ z' ⟨e1, e2, _⟩
    have e1 : r1 = none := e1
    subst e1 e2
    exact wpAny_pure z
  case step =>
    intro v more r z' q
    obtain ⟨_, e, am⟩ := q
    subst e
    obtain ⟨q, c, ev, hc⟩ := am v List.mem_cons_self
    subst ev
    have go : ∀ y ∈ more, ∃ q c, y = Value.ref c ∧ TxAt P w z'.heap q c := fun y h => am y (List.mem_cons_of_mem _ h)
    dsimp only
    by_cases same : (b == c || (carriedByValue (.ref b) && carriedByValue (.ref c))) = true
    · exact wp_if_pos same (wpAny_pure ⟨rfl, rfl, go⟩)
    · refine wp_if_neg same (wpAny_bind (wpAny_eqIsQuiet_tuple hk ?_))
      simp only [Bool.not_true, Bool.false_eq_true, if_false]
      refine wpAny_bind (wpAny_eqIsQuiet_tuple hc ?_)
      simp only [Bool.not_true, Bool.false_eq_true, if_false]
      refine wpAny_bind (tx_ofAClass hk ?_)
      simp only [Bool.false_eq_true, if_false]
      refine wpAny_bind (tx_ofAClass hc ?_)
      simp only [Bool.false_eq_true, if_false]
      exact wpAny_pure ⟨rfl, rfl, go⟩
end
end Cp
namespace Cp
open PySem PySem.Spec PyProof.Rows L2
/-! ### the table with such tuples -/
def txRows (P : Program) (w : World) (L : List (Addr × List Str)) : List (Int × Value) := L.map fun m => (txHash P w m.2, Value.ref m.1)
structure TxTab (P : Program) (w : World) (h : Heap) (a : Addr) (L : List (Addr × List Str)) (es : Array (Int × Value)) (ep : Nat) (t : SetTable) : Prop where
  obj : ∃ o, h.get? a = some o ∧ o.ExactSet ∧ o.data = .set es ep t
  row : es.toList = txRows P w L
  tab : TabOk t (L.map fun m => txHash P w m.2)
  one : (L.map (·.2)).Nodup
  mem : ∀ m ∈ L, TxAt P w h m.2 m.1
  led : w.params.followText "set-order" = true ∨ t.led = true
  big : L.length * 5 < t.mask * 3
  few : L.length < 64
section
variable {P : Program} {w : World} {B : Around} {Ez : Value → Shared → Prop} {s : Shared} {a : Addr} {L : List (Addr × List Str)} {es : Array (Int × Value)} {ep : Nat} {t : SetTable}
theorem TxTab.len (T : TxTab P w s.heap a L es ep t) : es.size = L.length := by
  rw [← Array.length_toList, T.row, txRows, List.length_map]
theorem TxTab.fit (T : TxTab P w s.heap a L es ep t) : t.fits es.size = true := by
  have e1 : t.place.size = L.length := by have := T.tab.sz; rwa [List.length_map] at this
  have e2 := T.len
  have e3 := T.big
  unfold SetTable.fits SetTable.fill
  simp only [T.tab.dm, Bool.and_eq_true, beq_iff_eq, decide_eq_true_eq]
  exact ⟨e1.trans e2.symm, by show t.place.size + 0 ≤ t.mask; omega⟩
theorem TxTab.get (T : TxTab P w s.heap a L es ep t) {i : Nat} {m : Addr × List Str} (h : L[i]? = some m) : es[i]? = some (txHash P w m.2, Value.ref m.1) := by
  rw [← Array.getElem?_toList, T.row, txRows, List.getElem?_map, h, Option.map_some]
theorem TxTab.odd (T : TxTab P w s.heap a L es ep t) : t.gaveWay = false := by
  unfold SetTable.gaveWay
  simp [mask_odd T.tab.mok]
/-- the start of a way -/
abbrev st0 (t : SetTable) (h : Int) : SetTable.Probe := runAt t.mask (SetTable.bits h % (t.mask + 1)) (SetTable.bits h)
theorem nth_dummy (m : Nat) : ∀ (n : Nat) (p : SetTable.Probe), p.dummy = none → (nth m p n).dummy = none
  | 0, _, h => h
  | n + 1, p, h => nth_dummy m n (adv m p) (by unfold adv; split <;> exact h)
/-- looking for a tuple, from the c-th step of its way on -/
theorem tx_find (T : TxTab P w s.heap a L es ep t) {x : Addr} {k : List Str} (hx : TxAt P w s.heap k x) (hu : B.units < cLine) {K : Nat} {Z : SetFound → Shared → Prop} (k1 : K < 10 * SetTable.turns t.mask)
    (k2 : way t.mask (txHash P w k) K ∉ t.place.toList) (k3 : ∀ c, c < K → way t.mask (txHash P w k) c ∈ t.place.toList) (yes : k ∈ L.map (·.2) → Z (.there none) s) (no : k ∉ L.map (·.2) → Z (.free (way t.mask (txHash P w k) K) false) s) (d : Nat) :
    ∀ (f c : Nat) (stand : Option SetTable.Probe), K - c = d → c ≤ K → d < f → stand.getD (t.probeStart (txHash P w k)) = nth t.mask (st0 t (txHash P w k)) c →
      (∀ (i : Nat) m, L[i]? = some m → m.2 = k → ∃ e, c ≤ e ∧ e < K ∧ t.place.toList[i]? = some (way t.mask (txHash P w k) e)) → wpAny (model P w) B (setSearchFrom a (.ref x) (txHash P w k) true f stand) Z Ez s := by
  induction d using Nat.strongRecOn with
  | _ d rec =>
    intro f c stand hd hc hf hst live
    obtain ⟨f, rfl⟩ : ∃ g, f = g + 1 := ⟨f - 1, by omega⟩
    obtain ⟨o, ho, hex, hdat⟩ := T.obj
    generalize hH : txHash P w k = H at *
    have ahead : ∀ q, nth t.mask (nth t.mask (st0 t H) c) q = nth t.mask (st0 t H) (c + q) := fun q => (nth_add t.mask c _ q).symm
    have aheadJ : ∀ q, (nth t.mask (nth t.mask (st0 t H) c) q).j = way t.mask H (c + q) := fun q => congrArg SetTable.Probe.j (ahead q)
    have stored : ∀ (i : Nat) m, L[i]? = some m → (es[i]?.map (·.1)).getD 0 = txHash P w m.2 := fun i m g => by rw [T.get g]; rfl
    have sp := go_spec t T.tab.ris T.tab.dm (fun i => (es[i]?.map (·.1)).getD 0) H (10 * SetTable.turns t.mask) (K - c) (nth t.mask (st0 t H) c) (nth_dummy _ _ _ rfl) (by omega)
      (fun q g => by rw [aheadJ]; exact k3 _ (by omega)) (by rw [aheadJ, Nat.add_sub_cancel' hc]; exact k2)
    rw [setSearchFrom_succ]
    apply wpAny_bind
    apply wpAny_setState_of ho hdat T.fit
    dsimp only
    apply wp_if_neg (by rw [T.odd]; decide)
    rcases sp with ⟨q, i, hq, hi, hh, before, pr⟩ | ⟨before, pr⟩
    · rw [aheadJ] at hi
      have pr2 : t.probe (fun i => (es[i]?.map (·.1)).getD 0) H (stand.getD (t.probeStart H)) = some (.candidate (way t.mask H (c + q)) i (nth t.mask (st0 t H) (c + (q + 1)))) := by
        rw [hst, ← aheadJ q, ← ahead (q + 1)]; exact pr
      rw [pr2]
      dsimp only
      have inL : i < L.length := by
        have g1 := (List.getElem?_eq_some_iff.mp hi).1
        have g2 := T.tab.sz
        rw [List.length_map] at g2
        rw [Array.length_toList] at g1
        exact g2 ▸ g1
      obtain ⟨m, hm⟩ : ∃ m, L[i]? = some m := ⟨_, List.getElem?_eq_getElem inL⟩
      have mL : m ∈ L := List.mem_of_getElem? hm
      have slotI : t.slot (way t.mask H (c + q)) = .live i := slot_live T.tab.ris hi
      have tail : wpAny (model P w) B (searchRest a (.ref x) H true f es t (way t.mask H (c + q)) i (nth t.mask (st0 t H) (c + (q + 1)))) Z Ez s := by
        unfold searchRest
        rw [T.get hm]
        apply wpAny_bind
        apply wpAny_holding
        apply wpAny_eqBool_tuple hu (T.mem m mL) hx
        apply wpAny_bind
        apply wpAny_setState_of ho hdat T.fit
        dsimp only
        rcases Classical.em (m.2 = k) with same | other
        · apply wp_if_pos (by simp [same])
          exact wpAny_pure (yes (List.mem_map.mpr ⟨m, mL, same⟩))
        · apply wp_if_neg (by simp [other])
          rw [sameMem]
          simp only [if_true, slotI, T.get hm]
          apply wpAny_bind
          apply wpAny_isSame_ref_self
          apply wpAny_bind
          apply wpAny_pure
          simp only [if_true]
          apply wp_if_neg (by simp [other])
          refine rec (K - (c + (q + 1))) (by omega) f (c + (q + 1)) _ rfl (by omega) (by omega) rfl fun i' m' g' k' => ?_
          obtain ⟨e, l1, l2, l3⟩ := live i' m' g' k'
          refine ⟨e, ?_, l2, l3⟩
          have n1 : ¬ e < c + q := fun lt => before (e - c) i' (by omega) (by rw [aheadJ, Nat.add_sub_cancel' l1]; exact l3) ((stored i' m' g').trans ((congrArg (txHash P w) k').trans hH))
          have n2 : e ≠ c + q := by
            intro eq
            subst eq
            have s2 := slotI.symm.trans (slot_live T.tab.ris l3)
            injection s2 with s2
            subst s2
            rw [hm] at g'
            cases g'
            exact other k'
          omega
      rcases Bool.eq_false_or_eq_true t.led with on | off
      · apply wp_if_neg (by simp [on])
        exact tail
      · apply wp_if_pos (by simp [off])
        apply wpAny_bind
        apply tx_seen hx
        · intro y hy
          obtain ⟨e, he, ee⟩ := List.mem_map.mp hy
          have he1 : e ∈ es ∧ e.1 = H := by simpa using he
          have he2 : e ∈ es.toList := Array.mem_toList_iff.mpr he1.1
          rw [T.row] at he2
          obtain ⟨m2, hm2, e2⟩ := List.mem_map.mp he2
          exact ⟨m2.2, m2.1, by rw [← ee, ← e2], T.mem m2 hm2⟩
        · apply wp_if_neg (by decide)
          exact tail
    · have pr2 : t.probe (fun i => (es[i]?.map (·.1)).getD 0) H (stand.getD (t.probeStart H)) = some (.empty (way t.mask H K) none) := by
        have eJ := aheadJ (K - c)
        rw [Nat.add_sub_cancel' hc] at eJ
        rw [hst, ← eJ]; exact pr
      rw [pr2]
      apply wpAny_pure
      apply no
      intro hm
      obtain ⟨m', hm', k'⟩ := List.mem_map.mp hm
      obtain ⟨i', g'⟩ := List.getElem?_of_mem hm'
      obtain ⟨e, l1, l2, l3⟩ := live i' m' g' k'
      exact before (e - c) i' (by omega) (by rw [aheadJ, Nat.add_sub_cancel' l1]; exact l3) ((stored i' m' g').trans ((congrArg (txHash P w) k').trans hH))
end
end Cp
namespace Cp
open PySem PySem.Spec PyProof.Rows L2
/-! ### adding such tuples -/
section
variable {P : Program} {w : World} {B : Around} {Ez : Value → Shared → Prop} {s : Shared} {a : Addr} {L : List (Addr × List Str)} {es : Array (Int × Value)} {ep : Nat} {t : SetTable}
theorem tx_other {h hp : Heap} {k : List Str} {b : Addr} {o : Obj} (hk : TxAt P w h k b) (ho : h.get? a = some o) (hd : o.data = .set es ep t) (sb : Heap.SameBut a h hp) : TxAt P w hp k b := by
  obtain ⟨o2, its, n, g, c, d, i⟩ := hk
  refine ⟨o2, its, n, (sb.2 b fun e => ?_).trans g, c, d, i⟩
  subst e
  rw [g] at ho
  cases ho
  rw [hd] at d
  cases d
theorem pick_all {α : Type} : ∀ L : List α, (List.range L.length).filterMap (fun i => L[i]?) = L
  | [] => rfl
  | x :: L => by
    rw [List.length_cons, List.range_succ_eq_map, List.filterMap_cons_some (f := fun i => (x :: L)[i]?) (a := 0) (b := x) rfl, List.filterMap_map]
    exact congrArg (x :: ·) (pick_all L)
theorem tx_getRow (row : es.toList = txRows P w L) (i : Nat) : es[i]? = L[i]?.map fun m => (txHash P w m.2, Value.ref m.1) := by
  rw [← Array.getElem?_toList, row, txRows, List.getElem?_map]
theorem tx_order (row : es.toList = txRows P w L) {ord : Array Nat} (pm : ord.toList.Perm (List.range L.length)) :
    ∃ M, (ord.filterMap (es[·]?)).toList = txRows P w M ∧ M.Perm L ∧ (M.map fun m => txHash P w m.2) = ord.toList.map fun i => (es.map (·.1)).getD i 0 := by
  refine ⟨ord.toList.filterMap fun i => L[i]?, ?_, ?_, ?_⟩
  · rw [Array.toList_filterMap, txRows, List.map_filterMap]
    exact congrArg (fun f => List.filterMap f ord.toList) (funext fun i => tx_getRow row i)
  · have q := pm.filterMap fun i => L[i]?
    rwa [pick_all] at q
  · have low : ∀ i ∈ ord.toList, i < L.length := fun i hi => List.mem_range.mp (pm.mem_iff.mp hi)
    revert low
    generalize ord.toList = l
    intro low
    induction l with
    | nil => rfl
    | cons i l rec =>
      have li := low i List.mem_cons_self
      rw [List.filterMap_cons_some (List.getElem?_eq_getElem li), List.map_cons, List.map_cons, rec fun j hj => low j (List.mem_cons_of_mem _ hj)]
      have e : (es.map (·.1))[i]? = some (txHash P w (L[i]).2) := by rw [Array.getElem?_map, tx_getRow row, List.getElem?_eq_getElem li]; rfl
      rw [Array.getD_eq_getD_getElem?, e]; rfl
/-- the table, larger, and so not too full -/
theorem tx_relay {o : Obj} (ho : s.heap.get? a = some o) (hex : o.ExactSet) (hd : o.data = .set es ep t) (row : es.toList = txRows P w L) (tab : TabOk t (L.map fun m => txHash P w m.2)) (low : L.length ≤ t.mask) (one : (L.map (·.2)).Nodup)
    (mem : ∀ m ∈ L, TxAt P w s.heap m.2 m.1) (led : w.params.followText "set-order" = true ∨ t.led = true) (few : L.length < 64) {want M : Nat} (w1 : SetTable.sizeAbove want - 1 = M) (w2 : MaskOk M) (w3 : SetTable.sizeAbove want ≤ 128) (w4 : L.length * 5 < M * 3) {Z : Unit → Shared → Prop}
    (fin : ∀ hp L' es' ep' t', Heap.SameBut a s.heap hp → TxTab P w hp a L' es' ep' t' → L'.Perm L → Z () { s with heap := hp }) : wpAny (model P w) B (setRelay a want) Z Ez s := by
  have len : es.size = L.length := by rw [← Array.length_toList, row, txRows, List.length_map]
  have fit : t.fits es.size = true := by
    have e1 := tab.sz
    rw [List.length_map] at e1
    unfold SetTable.fits SetTable.fill
    simp only [tab.dm, Bool.and_eq_true, beq_iff_eq, decide_eq_true_eq]
    exact ⟨e1.trans len.symm, by show t.place.size + 0 ≤ t.mask; omega⟩
  obtain ⟨u, ord, eq, pm, tu, um, ul, _, _⟩ := relaid_ok t (hs := es.map (·.1)) w1 w2 (by rw [Array.size_map, len]; omega)
  rw [Array.size_map, len] at pm
  obtain ⟨M2, m1, m2, m3⟩ := tx_order row pm
  rw [← m3] at tu
  have sz : (ord.filterMap (es[·]?)).size = es.size := by rw [← Array.length_toList, m1, txRows, List.length_map, m2.length_eq, len]
  rw [setRelay_eq]
  apply wpAny_bind
  apply wpAny_setState_of ho hd fit
  dsimp only
  apply wp_if_neg (by rw [sizeLine_eq]; omega)
  rw [eq]
  apply wpAny_bind
  apply wp_if_neg (by rw [sz]; simp)
  apply wpAny_pure
  dsimp only
  refine wpAny_storeSet_of ho hd ?_ (by rw [sz, len, sizeLine_eq]; omega)
  have sb : Heap.SameBut a s.heap (s.heap.update a (Obj.putSet (ord.filterMap (es[·]?)) u)) := Heap.SameBut.update ..
  refine fin _ M2 (ord.filterMap (es[·]?)) (ep + 1) u sb ⟨⟨_, store_at ho hd, ⟨hex.1, hex.2.1, hex.2.2⟩, rfl⟩, m1, tu, (m2.map _).nodup_iff.mpr one, fun m hm => tx_other (mem m (m2.mem_iff.mp hm)) ho hd sb, by rw [ul]; exact led, by rw [m2.length_eq, um]; exact w4, by rw [m2.length_eq]; exact few⟩ m2
theorem tx_search (T : TxTab P w s.heap a L es ep t) {x : Addr} {k : List Str} (hx : TxAt P w s.heap k x) (hu : B.units < cLine) {Z : SetFound → Shared → Prop} (yes : k ∈ L.map (·.2) → Z (.there none) s)
    (no : ∀ K, k ∉ L.map (·.2) → way t.mask (txHash P w k) K ∉ t.place.toList → (∀ c, c < K → way t.mask (txHash P w k) c ∈ t.place.toList) → Z (.free (way t.mask (txHash P w k) K) false) s) :
    wpAny (model P w) B (setSearch a (.ref x) (txHash P w k) true) Z Ez s := by
  have big := T.big
  obtain ⟨K, b1, b2, b3⟩ := T.tab.first (by rw [List.length_map]; omega) (txHash P w k)
  have lim : 10 * SetTable.turns t.mask ≤ 90000 := by
    unfold SetTable.turns
    rcases T.tab.mok with e | e | e <;> rw [e] <;> decide
  unfold setSearch
  refine tx_find T hx hu b1 b2 b3 yes (fun n => no K n b2 b3) K 100000 0 none rfl (Nat.zero_le _) (by omega) rfl fun i m g e => ?_
  have hi : (L.map fun m => txHash P w m.2)[i]? = some (txHash P w k) := by rw [List.getElem?_map, g, ← e]; rfl
  have il : i < t.place.toList.length := by
    have g1 := (List.getElem?_eq_some_iff.mp g).1
    have g2 := T.tab.sz
    rw [List.length_map] at g2
    rw [Array.length_toList]; omega
  obtain ⟨c, c1, c2⟩ := T.tab.before b2 hi (List.getElem?_eq_getElem il)
  exact ⟨c, Nat.zero_le _, c1, by rw [c2]; exact List.getElem?_eq_getElem il⟩
theorem tx_mid {α : Type} (L : List α) (n : Nat) (x : α) : (L.take n ++ x :: L.drop n).Perm (x :: L) := by
  have q : (L.take n ++ x :: L.drop n).Perm (x :: (L.take n ++ L.drop n)) := List.perm_middle
  rwa [List.take_append_drop] at q
/-- one more tuple -/
theorem tx_add (T : TxTab P w s.heap a L es ep t) {x : Addr} {k : List Str} (hx : TxAt P w s.heap k x) (hu : B.units < cLine) (few : L.length + 1 < 64) {Z : Bool → Shared → Prop}
    (fin : ∀ b hp L' es' ep' t', Heap.SameBut a s.heap hp → TxTab P w hp a L' es' ep' t' → (k ∈ L.map (·.2) → L' = L) → (k ∉ L.map (·.2) → L'.Perm ((x, k) :: L)) → Z b { s with heap := hp }) :
    wpAny (model P w) B (setAddHashed a (.ref x) (txHash P w k)) Z Ez s := by
  obtain ⟨o, ho, hex, hdat⟩ := T.obj
  have len := T.len
  have big := T.big
  unfold setAddHashed
  apply wpAny_holding
  rw [setAddHashedIn_succ a (.ref x) (txHash P w k) 99999]
  apply wpAny_bind
  apply wpAny_setState_of ho hdat T.fit
  dsimp only
  apply wp_if_neg (by simp [byScan, Value.scannable])
  apply wpAny_bind
  refine tx_search T hx hu (fun hm => wpAny_pure (fin false s.heap L es ep t (Heap.SameBut.refl a s.heap) T (fun _ => rfl) fun n => absurd hm n)) fun K hm b2 b3 => ?_
  dsimp only
  apply wpAny_bind
  apply wpAny_setState_of ho hdat T.fit
  dsimp only
  obtain ⟨r1, r2, r3, r4, r5, _, _, _, r9⟩ := T.tab.put b2 b3
  generalize t.put (way t.mask (txHash P w k) K) = pu at r1 r3 r4 r5 r9 ⊢
  generalize SetTable.below t.place (way t.mask (txHash P w k) K) = n at r1 r2 r3
  obtain ⟨t1, n1⟩ := pu
  dsimp only at r1 r3 r4 r5 r9 ⊢
  subst r1
  have body : ∀ c : Bool, wpAny (model P w) B (do
      let t := if c then t1 else { t1 with plain := false }
      storeSet a (SetTable.insertAt es n1 (txHash P w k, .ref x)) t
      if t.tooFull then setRelay a (SetTable.grown (es.size + 1))
      return true) Z Ez s := by
    intro c
    have row1 : (SetTable.insertAt es n1 (txHash P w k, Value.ref x)).toList = txRows P w (L.take n1 ++ (x, k) :: L.drop n1) := by
      rw [SetTable.toList_insertAt, T.row, txRows, txRows, List.map_append, List.map_cons, List.map_take, List.map_drop]
    have pm := tx_mid L n1 (x, k)
    have ln := pm.length_eq
    rw [List.length_cons] at ln
    have e3 : (L.map fun m => txHash P w m.2).take n1 ++ txHash P w k :: (L.map fun m => txHash P w m.2).drop n1 = (L.take n1 ++ (x, k) :: L.drop n1).map fun m => txHash P w m.2 := by
      rw [List.map_append, List.map_cons, List.map_take, List.map_drop]
    rw [e3] at r3
    have one1 : ((L.take n1 ++ (x, k) :: L.drop n1).map (·.2)).Nodup := (pm.map _).nodup_iff.mpr (List.nodup_cons.mpr ⟨hm, T.one⟩)
    obtain ⟨t2, ht2⟩ : ∃ t2, t2 = (if c then t1 else { t1 with plain := false }) := ⟨_, rfl⟩
    have tab2 : TabOk t2 ((L.take n1 ++ (x, k) :: L.drop n1).map fun m => txHash P w m.2) ∧ t2.mask = t1.mask ∧ t2.led = t1.led ∧ t2.fill = t1.fill ∧ t2.tooFull = t1.tooFull := by
      rw [ht2]
      cases c
      · exact ⟨⟨r3.ris, r3.dm, r3.sz, r3.mok, r3.bd, r3.reach⟩, rfl, rfl, rfl, rfl⟩
      · exact ⟨r3, rfl, rfl, rfl, rfl⟩
    rw [← ht2]
    clear ht2
    obtain ⟨tab2, e4, e5, e6, e7⟩ := tab2
    generalize L.take n1 ++ (x, k) :: L.drop n1 = L1 at *
    have len1 : (SetTable.insertAt es n1 (txHash P w k, Value.ref x)).size = L.length + 1 := by rw [← Array.length_toList, row1, txRows, List.length_map, ln]
    generalize SetTable.insertAt es n1 (txHash P w k, Value.ref x) = es1 at *
    dsimp only
    apply wpAny_bind
    refine wpAny_storeSet_of ho hdat ?_ (by rw [len1, sizeLine_eq]; omega)
    have sb : Heap.SameBut a s.heap (s.heap.update a (Obj.putSet es1 t2)) := Heap.SameBut.update ..
    have got := store_at (es' := es1) (t' := t2) ho hdat
    generalize s.heap.update a (Obj.putSet es1 t2) = h1 at sb got ⊢
    have mem1 : ∀ m ∈ L1, TxAt P w h1 m.2 m.1 := fun m h => by
      rcases List.mem_cons.mp (pm.mem_iff.mp h) with e | e
      · subst e; exact tx_other hx ho hdat sb
      · exact tx_other (T.mem m e) ho hdat sb
    have led1 : w.params.followText "set-order" = true ∨ t2.led = true := by rw [e5, r5]; exact T.led
    have full : t2.tooFull = decide ((L.length + 1) * 5 ≥ t.mask * 3) := by
      rw [e7]
      unfold SetTable.tooFull
      rw [r9, r4, List.length_map]
    by_cases c2 : (L.length + 1) * 5 ≥ t.mask * 3
    · apply wp_if_pos (by rw [full]; exact decide_eq_true c2)
      apply wpAny_bind
      rw [len]
      have two : (t.mask = 7 ∧ L.length = 4) ∨ (t.mask = 31 ∧ L.length = 18) := by
        rcases T.tab.mok with e | e | e <;> rw [e] at c2 big <;> omega
      have go : ∀ M, SetTable.sizeAbove (SetTable.grown (L.length + 1)) - 1 = M → MaskOk M → SetTable.sizeAbove (SetTable.grown (L.length + 1)) ≤ 128 → (L.length + 1) * 5 < M * 3 →
          wpAny (model P w) B (setRelay a (SetTable.grown (L.length + 1))) (fun _ z => wpAny (model P w) B (pure true) Z Ez z) Ez { s with heap := h1 } := fun M g1 g2 g3 g4 =>
        tx_relay (s := { s with heap := h1 }) got ⟨hex.1, hex.2.1, hex.2.2⟩ rfl row1 tab2 (by rw [ln, e4, r4]; omega) one1 mem1 led1 (by omega) g1 g2 g3 (by rw [ln]; exact g4) fun h2 L2 es2 ep2 t2' sb2 T2 pm2 =>
          wpAny_pure (fin true h2 L2 es2 ep2 t2' (sb.trans sb2) T2 (fun y => absurd y hm) fun _ => pm2.trans pm)
      rcases two with ⟨_, e⟩ | ⟨_, e⟩
      · exact go 31 (by rw [e, size_20]) (.inr (.inl rfl)) (by rw [e, size_20]; decide) (by omega)
      · exact go 127 (by rw [e, size_76]) (.inr (.inr rfl)) (by rw [e, size_76]; decide) (by omega)
    · apply wp_if_neg (by rw [full]; simp only [decide_eq_true_eq]; exact c2)
      exact wpAny_pure (fin true h1 L1 es1 (ep + 1) t2 sb ⟨⟨_, got, ⟨hex.1, hex.2.1, hex.2.2⟩, rfl⟩, row1, tab2, one1, mem1, led1, by rw [ln, e4, r4]; omega, by omega⟩ (fun y => absurd y hm) fun _ => pm)
  by_cases pl : t1.plain = true
  · apply wp_if_pos pl
    apply wpAny_bind
    apply tx_hashBy hx
    exact body
  · apply wp_if_neg pl
    exact body true
end
end Cp
namespace Cp
open PySem PySem.Spec PyProof.Rows L2
/-! ### Python's order of data is an order -/
section
variable {α : Type} [Rep α]
theorem leD_total (a b : α) : (leD a b || leD b a) = true := Bool.or_eq_true_iff.mpr ((PySem.W.sortLe_total (PyProof.Rows.listOrd PyProof.Rows.itemOrd) false fun b : α => PySem.W.keyToks (Rep.enc b)).total a b)
theorem leD_trans (a b c : α) (h : leD a b = true) (h2 : leD b c = true) : leD a c = true := (PySem.W.sortLe_total (PyProof.Rows.listOrd PyProof.Rows.itemOrd) false fun b : α => PySem.W.keyToks (Rep.enc b)).trans a b c h h2
theorem leD_refl (a : α) : leD a a = true := by
  have h := leD_total a a
  rwa [Bool.or_self] at h
theorem enc_toks {a b : α} (ha : PySem.W.alike (Rep.enc a) (Rep.enc b) = true) (h : PySem.W.keyToks (Rep.enc a) = PySem.W.keyToks (Rep.enc b)) : a = b := by
  refine (Rep.eqv a b).mp ?_
  cases e : PyData.eqv (Rep.enc a) (Rep.enc b) with
  | true => rfl
  | false =>
    have h2 := (PySem.W.toks_eqv _ _ ha).2 e [.inl 0] [.inl 1]
    rw [h, PySem.W.lex_pre] at h2
    have h3 : PyProof.Rows.lexLt PyProof.Rows.itemOrd (PySem.W.keyToks (Rep.enc b)) (PySem.W.keyToks (Rep.enc b)) = false := (PyProof.Rows.listOrd PyProof.Rows.itemOrd).irrefl _
    rw [h3] at h2
    exact absurd h2 (by decide)
theorem leD_anti {a b : α} (ha : PySem.W.alike (Rep.enc a) (Rep.enc b) = true) (h : leD a b = true) (h2 : leD b a = true) : a = b := by
  have e1 : (PyProof.Rows.listOrd PyProof.Rows.itemOrd).blt (PySem.W.keyToks (Rep.enc b)) (PySem.W.keyToks (Rep.enc a)) = false := (Bool.not_eq_true' _).mp (show (!(PyProof.Rows.listOrd PyProof.Rows.itemOrd).blt (PySem.W.keyToks (Rep.enc b)) (PySem.W.keyToks (Rep.enc a))) = true from h)
  have e2 : (PyProof.Rows.listOrd PyProof.Rows.itemOrd).blt (PySem.W.keyToks (Rep.enc a)) (PySem.W.keyToks (Rep.enc b)) = false := (Bool.not_eq_true' _).mp (show (!(PyProof.Rows.listOrd PyProof.Rows.itemOrd).blt (PySem.W.keyToks (Rep.enc a)) (PySem.W.keyToks (Rep.enc b))) = true from h2)
  exact enc_toks ha ((PyProof.Rows.listOrd PyProof.Rows.itemOrd).total _ _ e2 e1)
theorem srt_pw (xs : List α) : (srt xs).Pairwise fun a b => leD a b = true := List.pairwise_mergeSort leD_trans leD_total xs
theorem srt_of {xs : List α} (h : xs.Pairwise fun a b => leD a b = true) : srt xs = xs := List.mergeSort_of_pairwise h
theorem srt_srt (xs : List α) : srt (srt xs) = srt xs := srt_of (srt_pw xs)
theorem srt_mem {xs : List α} {x : α} : x ∈ srt xs ↔ x ∈ xs := (srt_perm xs).mem_iff
variable [Srt α]
theorem srt_eq {xs ys : List α} (h : xs.Perm ys) : srt xs = srt ys :=
  List.Perm.eq_of_pairwise (fun a b _ _ h1 h2 => leD_anti (Srt.al a b) h1 h2) (srt_pw xs) (srt_pw ys) (((srt_perm xs).trans h).trans (srt_perm ys).symm)
end
end Cp
namespace Cp
open PySem PySem.Spec PyProof.Rows L2
open PySem.W (EachIs alikeAll alike)
/-! ### tuples, the empty one among them, can be sorted -/
section
variable {prog : Program} {w : World} {A : Around} {E : Value → Shared → Prop} {s : Shared}
theorem each_r {α β : Type} {R : α → β → Prop} : ∀ {as : List α} {bs : List β}, EachIs R as bs → ∀ b ∈ bs, ∃ a, a ∈ as ∧ R a b
  | _, _, .cons h t, b, hb => by
    rcases List.mem_cons.mp hb with e | e
    · exact ⟨_, List.mem_cons_self, e ▸ h⟩
    · obtain ⟨a, m, r⟩ := each_r t b e
      exact ⟨a, List.mem_cons_of_mem _ m, r⟩
/-- one tuple against another, by the type's own comparison -/
theorem tx_lt {xs ys : List PyData} {a b : Value} {as bs : List Addr} {Z : Bool → Shared → Prop} (ra : Reads s.heap a (.tuple xs) as) (rb : Reads s.heap b (.tuple ys) bs) (al : alikeAll xs ys = true) (hu : A.units + min (PyData.tuple xs).depth (PyData.tuple ys).depth < cLine)
    (z : Z (PySem.W.dataLt (.tuple xs) (.tuple ys)) s) : wpAny (model prog w) A (oneLt' true a b) Z E s := by
  cases ra with
  | @tuple l o us n _ as1 g1 g2 g3 g4 =>
    cases rb with
    | @tuple l2 o2 us2 n2 _ bs1 k1 k2 k3 k4 =>
      have e1 : us.size = xs.length := by simpa using PySem.SeqAt.ReadsAll.length _ _ _ g4
      have e2 : us2.size = ys.length := by simpa using PySem.SeqAt.ReadsAll.length _ _ _ k4
      rw [PySem.W.dataLt_tuple, ← PySem.W.firstLt_toks xs ys al, ← e1, ← e2] at z
      obtain ⟨c1, d1, dt1, sl1⟩ := o
      obtain ⟨c2, d2, dt2, sl2⟩ := o2
      have g2 : c1 = .type "tuple" := g2
      have g3 : dt1 = .seq us n := g3
      have k2 : c2 = .type "tuple" := k2
      have k3 : dt2 = .seq us2 n2 := k3
      subst g2 g3 k2 k3
      rw [oneLt'_eq]
      simp only [if_true]
      apply wpAny_bind
      apply wpAny_cRoomFor (PySem.SeqAt.room_here hu)
      apply wpAny_bind
      refine wpAny_callSpecialIfBound?_slot (T := "tuple") ⟨_, g1, rfl⟩ PySem.F.slot_tuple_lt (call_meets PySem.F.slot_tuple_lt ⟨_, g1, rfl⟩ PySem.F.entry_tuple_lt (PySem.F.args_tuple_lt_2 _ _)
        (PySem.SeqAt.tuple_ltAt l l2 us us2 n n2 d1 d2 sl1 sl2 (PySem.SeqAt.pairEq xs ys) fun j => PySem.W.dataLt (xs.getD j .none) (ys.getD j .none)) ⟨g1, k1, fun j j1 j2 => ?_, fun j j1 j2 hj => ?_, ?_⟩)
      · have q := PySem.W.eqAt_alikeAll xs ys A.in1 s us.toList us2.toList _ _ g4 k4 al (PySem.SeqAt.room_in hu) j (by simpa using j1) (by simpa using j2)
        simpa using q
      · have q := PySem.W.rcLt_alikeAll xs ys A.in1 s us.toList us2.toList _ _ g4 k4 al (PySem.SeqAt.room_in hu) j (by simpa using j1) (by simpa using j2) hj
        simpa using q
      · exact wpAny_truthy_bool z
/-- their first items, or none -/
theorem tx_heads : ∀ {vs : List Value} {ds : List PyData} {Z : List (Option Value) → Shared → Prop}, EachIs (fun v d => ∃ as, Reads s.heap v d as) vs ds → (∀ d ∈ ds, ∃ xs, d = .tuple xs) →
    (∀ os, EachIs (fun (o : Option Value) d => o.isSome = true ↔ d ≠ PyData.tuple []) os ds → Z os s) → wpAny (model prog w) A (vs.mapM firstOfTuple') Z E s
  | _, _, _, .nil, _, h => by rw [List.mapM_nil]; exact wpAny_pure (h [] .nil)
  | v :: vs, d :: ds, Z, .cons ⟨as, r⟩ t, ht, h => by
    obtain ⟨xs, rfl⟩ := ht d List.mem_cons_self
    rw [List.mapM_cons]
    apply wpAny_bind
    cases r with
    | @tuple l o us n _ as1 g1 g2 g3 g4 =>
      rw [PySem.W.kas_first_eq]
      apply wpAny_bind
      refine PySem.W.Looks.here (show PySem.W.Looks (model prog w) s.heap (typeOf (.ref l)) o.cls from (PySem.W.Looks.ld g1).andThen .now) ?_
      rw [g2, if_neg (by first | decide | simp)]
      apply wpAny_bind
      apply PyProof.Rows.listItems_at g1 g3
      apply wpAny_pure
      apply wpAny_bind
      refine tx_heads (Z := fun os z => wpAny (model prog w) A (pure (us[0]? :: os)) Z E z) t (fun d hd => ht d (List.mem_cons_of_mem _ hd)) fun os ho => wpAny_pure (h _ (.cons ?_ ho))
      have e1 : us.size = xs.length := by simpa using PySem.SeqAt.ReadsAll.length _ _ _ g4
      cases xs with
      | nil =>
        have : us[0]? = none := Array.getElem?_eq_none (by rw [e1]; exact Nat.le_refl _)
        simp [this]
      | cons x xs =>
        have lt : 0 < us.size := by rw [e1]; exact Nat.succ_pos _
        simp [Array.getElem?_eq_getElem lt]
theorem tx_sorts {vs : List Value} {ds : List PyData} (e : EachIs (fun v d => ∃ as, Reads s.heap v d as) vs ds) (ht : ∀ d ∈ ds, ∃ xs, d = .tuple xs) (al : PySem.W.AllAlike ds) (hu : ∀ d, d ∈ ds → A.units + d.depth < cLine) :
    PySem.W.SortsAt prog w A s (PySem.W.dataKind s.heap ds) vs := by
  have room : ∀ {d d2 : PyData}, d ∈ ds → A.units + min d.depth d2.depth < cLine := fun hd => by have := hu _ hd; omega
  classical
  by_cases hemp : PyData.tuple [] ∈ ds
  · have keyed : ∀ v ∈ vs, ∃ a, (PySem.W.dataKind s.heap ds).keyOf v = some a := fun v hv => by
      obtain ⟨d, hd, as, r⟩ := e.left v hv
      exact ⟨_, PySem.W.dataKind_some al hd r⟩
    -- which kind is found: by the first
    have kinds : ∃ kd, (kd = general' ∨ kd = oneType') ∧ (2 ≤ vs.length → ∀ (E : Value → Shared → Prop) {Z : SortKind → Shared → Prop}, Z kd s → wpAny (model prog w) A (keyKind' vs.toArray) Z E s) := by
      cases e with
      | nil => cases hemp
      | @cons v d vs ds r t =>
        refine ⟨if d = .tuple [] then oneType' else general', by by_cases c : d = .tuple [] <;> simp [c], fun _ E Z z => ?_⟩
        rw [keyKind'_eq, List.mapM_toArray, map_eq_pure_bind]
        apply wpAny_bind
        apply wpAny_bind
        refine tx_heads (.cons r t) ht fun os ho => wpAny_pure ?_
        have notAll : ¬ (os.toArray.all fun o => o.isSome) = true := by
          intro h
          rw [List.all_toArray] at h
          have h2 := List.all_eq_true.mp h
          obtain ⟨o, hm, ho2⟩ := each_r ho _ hemp
          exact (ho2.mp (h2 o hm)) rfl
        rw [if_neg notAll]
        cases ho with
        | @cons o _ os2 _ h1 h2 =>
          by_cases hd : d = .tuple []
          · have on : o = none := by
              cases o with
              | none => rfl
              | some o => exact absurd hd (h1.mp rfl)
            rw [if_pos hd] at z
            subst on
            rw [if_neg (by simp)]
            rw [oneTypeOnly'_eq, List.mapM_toArray, map_eq_pure_bind]
            apply wpAny_bind
            apply wpAny_bind
            apply wpAny_bind
            refine PySem.W.kas_mapM (r := Value.type "tuple") _ (fun u hu' Q' hq => ?_) (wpAny_pure ?_)
            · obtain ⟨d2, hd2, as2, r2⟩ := (EachIs.cons r t).left u hu'
              obtain ⟨xs2, rfl⟩ := ht d2 hd2
              exact (PySem.W.looks_reads (M := model prog w) r2).here hq
            · have all1 : ((List.map (fun _ => Value.type "tuple") (v :: vs)).toArray.all fun x => x == Value.type "tuple") = true := by
                rw [List.all_toArray, List.all_eq_true]
                intro x hx
                obtain ⟨_, _, rfl⟩ := List.mem_map.mp hx
                decide
              have fst : (List.map (fun _ => Value.type "tuple") (v :: vs)).toArray[0]? = some (Value.type "tuple") := by simp
              rw [fst]
              simp only [all1, if_true]
              exact wpAny_pure (wpAny_pure z)
          · have os1 : o.isSome = true := h1.mpr hd
            rw [if_neg hd] at z
            rw [if_pos (by simpa using os1)]
            exact wpAny_pure z
    obtain ⟨kd, hkd, find⟩ := kinds
    refine ⟨keyed, kd, ?_, find⟩
    intro E x y a b Z ha hb z
    obtain ⟨d, as, hd, ra, rfl⟩ := PySem.W.dataKind_inv ha
    obtain ⟨d2, as2, hd2, rb, rfl⟩ := PySem.W.dataKind_inv hb
    have h1 := al d hd d2 hd2
    rcases hkd with rfl | rfl
    · show wpAny (model prog w) A (oneLt' false x y) Z E s
      obtain ⟨xs, rfl⟩ := ht d hd
      exact PySem.W.oneLt_alike (fun c => nomatch c) ra rb h1 (fun c => nomatch c) (room hd) z
    · rw [keyLt'_oneType]
      obtain ⟨xs, rfl⟩ := ht d hd
      obtain ⟨ys, rfl⟩ := ht d2 hd2
      exact tx_lt ra rb (by simpa [alike] using h1) (room hd) z
  · refine PySem.W.SortsAt.data e al (.inl fun d hd => ?_) hu
    obtain ⟨xs, rfl⟩ := ht d hd
    cases xs with
    | nil => exact absurd hd hemp
    | cons x r => exact ⟨x, r, rfl⟩
end
end Cp
namespace Cp
open PySem PySem.Spec PyProof.Rows L2
open PySem.W (EachIs)
/-! ### set(xs) of tuples of texts, and sorted of it -/
theorem perm_lift {α β : Type} [DecidableEq α] (f : α → β) : ∀ (out : List β) (L : List α), out.Perm (L.map f) → ∃ M : List α, out = M.map f ∧ M.Perm L
  | [], L, h => by
    have e : L = [] := by
      have q := h.length_eq
      rw [List.length_map] at q
      exact List.length_eq_zero_iff.mp q.symm
    exact ⟨[], rfl, by rw [e]⟩
  | v :: out, L, h => by
    obtain ⟨m, hm, e⟩ := List.mem_map.mp (h.mem_iff.mp List.mem_cons_self)
    have p1 : L.Perm (m :: L.erase m) := List.perm_cons_erase hm
    have p2 : out.Perm ((L.erase m).map f) := by
      have q := h.trans (p1.map f)
      rw [List.map_cons, e] at q
      exact q.cons_inv
    obtain ⟨M, e1, p3⟩ := perm_lift f out _ p2
    exact ⟨m :: M, by rw [List.map_cons, e, e1], (p3.cons m).trans p1.symm⟩
/-- what the first i have given -/
structure TxGot (ks : List (Addr × List Str)) (i : Nat) (L : List (Addr × List Str)) : Prop where
  sub : ∀ m ∈ L, m ∈ ks.take i
  all : ∀ m ∈ ks.take i, m.2 ∈ L.map (·.2)
  len : L.length ≤ i
def TxSet (P : Program) (w : World) (N T : Addr) (ks : List (Addr × List Str)) (i : Nat) (h : Heap) : Prop :=
  (∀ m ∈ ks, m.1 < N ∧ TxAt P w h m.2 m.1) ∧ ∃ L es ep t, TxTab P w h T L es ep t ∧ TxGot ks i L
section
variable {P : Program} {w : World} {B : Around} {Ez : Value → Shared → Prop} {s : Shared}
theorem tx_kept {h hp : Heap} {k : List Str} {b : Addr} (x : TxAt P w h k b) (kp : ∀ o, h.get? b = some o → hp.get? b = some o) : TxAt P w hp k b := by
  obtain ⟨o, its, n, g, r⟩ := x
  exact ⟨o, its, n, kp o g, r⟩
theorem tx_start {N T : Addr} {ks : List (Addr × List Str)} {hp : Heap} {led : Bool} (hl : led = !(w.params.followText "set-order")) (g : hp.get? T = some (emptySet led)) (hk : ∀ m ∈ ks, m.1 < N ∧ TxAt P w hp m.2 m.1) : TxSet P w N T ks 0 hp := by
  refine ⟨hk, [], #[], 0, .fresh 0 0 led, ⟨⟨_, g, ⟨rfl, rfl, rfl⟩, rfl⟩, rfl, ⟨List.Pairwise.nil, rfl, rfl, .inl rfl, fun x hx => (by cases hx), fun i h j hi => (by simp at hi)⟩, List.nodup_nil, fun m hm => (by cases hm), ?_, ?_, ?_⟩, ⟨fun m hm => (by cases hm), fun m hm => (by simp at hm), Nat.le_refl _⟩⟩
  · show _ ∨ led = true
    rw [hl]
    cases w.params.followText "set-order"
    · exact .inr rfl
    · exact .inl rfl
  · show 0 * 5 < 7 * 3
    decide
  · show 0 < 64
    decide
theorem tx_keep {N T : Addr} {ks : List (Addr × List Str)} {i : Nat} {h hp : Heap} (hT : T = N) (j : TxSet P w N T ks i h) (kp : ∀ b o, b ∉ [N + 1] → h.get? b = some o → hp.get? b = some o) : TxSet P w N T ks i hp := by
  obtain ⟨hk, L, es, ep, t, X, G⟩ := j
  have low : ∀ b, b ≤ N → b ∉ [N + 1] := fun b hb z => absurd (List.mem_singleton.mp z) (Nat.ne_of_lt (Nat.lt_succ_of_le hb))
  have hk2 : ∀ m ∈ ks, m.1 < N ∧ TxAt P w hp m.2 m.1 := fun m hm => ⟨(hk m hm).1, tx_kept (hk m hm).2 fun o g => kp _ o (low _ (Nat.le_of_lt (hk m hm).1)) g⟩
  obtain ⟨o, ho, r⟩ := X.obj
  exact ⟨hk2, L, es, ep, t, ⟨⟨o, kp _ o (low _ (by rw [hT]; exact Nat.le_refl _)) ho, r⟩, X.row, X.tab, X.one, fun m hm => (hk2 m (List.mem_of_mem_take (G.sub m hm))).2, X.led, X.big, X.few⟩, G⟩
theorem tx_one {N T : Addr} {ks : List (Addr × List Str)} {items : Array Value} (hT : T = N) (hu : B.units < cLine) (few : ks.length < 60) (hv : items.toList = ks.map fun m => Value.ref m.1) :
    AddsOne P w B T items.size (fun i v => items[i]? = some v) (TxSet P w N T ks) := by
  intro i v s E Z hi hvi hJ hZ
  obtain ⟨hk, L, es, ep, t, X, G⟩ := hJ
  rw [← Array.getElem?_toList, hv, List.getElem?_map] at hvi
  obtain ⟨m, hm, rfl⟩ : ∃ m, ks[i]? = some m ∧ v = .ref m.1 := by
    cases q : ks[i]? with
    | none => rw [q] at hvi; cases hvi
    | some m => rw [q] at hvi; exact ⟨m, rfl, (Option.some.inj hvi).symm⟩
  have mk := List.mem_of_getElem? hm
  have il : i < ks.length := (List.getElem?_eq_some_iff.mp hm).1
  have et : ks.take (i + 1) = ks.take i ++ [m] := by rw [List.take_succ, hm]; rfl
  have gl := G.len
  unfold setAdd
  apply wpAny_holding
  apply wpAny_bind
  refine wpAny_pyHash_tuple hu (hk m mk).2 ?_
  refine tx_add (s := { s with toks := s.toks + (m.2.length + 1) }) X (hk m mk).2 hu (by omega) fun b hp L' es' ep' t' sb X' c1 c2 => ?_
  refine hZ hp _ (Nat.le_add_right _ _) sb ⟨fun q hq => ⟨(hk q hq).1, tx_kept (hk q hq).2 fun o g => (sb.2 _ fun e => absurd (hk q hq).1 (by rw [e, hT]; exact Nat.lt_irrefl _)).trans g⟩, L', es', ep', t', X', ?_⟩
  by_cases c : m.2 ∈ L.map (·.2)
  · rw [c1 c]
    refine ⟨fun q hq => by rw [et]; exact List.mem_append_left _ (G.sub q hq), fun q hq => ?_, Nat.le_succ_of_le G.len⟩
    rw [et] at hq
    rcases List.mem_append.mp hq with z | z
    · exact G.all q z
    · rw [List.mem_singleton.mp z]; exact c
  · have pm := c2 c
    refine ⟨fun q hq => ?_, fun q hq => ?_, by rw [pm.length_eq]; exact Nat.succ_le_succ G.len⟩
    · rw [et]
      rcases List.mem_cons.mp (pm.mem_iff.mp hq) with z | z
      · rw [z]; exact List.mem_append_right _ (List.mem_singleton.mpr rfl)
      · exact List.mem_append_left _ (G.sub q z)
    · rw [(pm.map (·.2)).mem_iff, List.map_cons]
      rw [et] at hq
      rcases List.mem_append.mp hq with z | z
      · exact List.mem_cons_of_mem _ (G.all q z)
      · rw [List.mem_singleton.mp z]; exact List.mem_cons_self
/-- the tuple reads as data -/
theorem tx_reads {h : Heap} {k : List Str} {b : Addr} (x : TxAt P w h k b) : ∃ as, Reads h (.ref b) (.tuple (k.map PyData.str)) as := by
  obtain ⟨o, its, n, ho, hc, hd, hi⟩ := x
  have all : ∀ {k : List Str} {us : List Value}, PySem.ItemsAre (PySem.strKind P w) k us → ∃ as, ReadsAll h us (k.map PyData.str) as := by
    intro k us q
    induction q with
    | nil => exact ⟨_, .nil⟩
    | @cons y v ys us hv _ rec =>
      obtain ⟨as, r⟩ := rec
      have e : v.isStrOf y = true := hv
      cases v <;> simp [Value.isStrOf] at e
      subst e
      exact ⟨_, .cons (.str _ _) r⟩
  obtain ⟨as, r⟩ := all hi
  exact ⟨_, .tuple ho hc hd r⟩
theorem tx_alike (a b : Tp Str) : PySem.W.alike (Rep.enc a) (Rep.enc b) = true := alike_tp alike_str a b
theorem srt_tp {xs ys : List (Tp Str)} (h : xs.Perm ys) : srt xs = srt ys :=
  List.Perm.eq_of_pairwise (fun a b _ _ g1 g2 => leD_anti (tx_alike a b) g1 g2) (srt_pw xs) (srt_pw ys) (((srt_perm xs).trans h).trans (srt_perm ys).symm)
/-- sorted of such a set -/
theorem tx_sorted {a : Addr} {L : List (Addr × List Str)} {es : Array (Int × Value)} {ep : Nat} {t : SetTable} {Z : Value → Shared → Prop} (T : TxTab P w s.heap a L es ep t) (nh : B.handled = none) (hu : B.units + 20 < cLine)
    (fin : ∀ z p (us : List Value) (c : Nat), (∀ b o, s.heap.get? b = some o → z.heap.get? b = some o) → z.gens = s.gens → z.os = s.os → s.heap.objs.size ≤ p → z.heap.get? p = some (seqObj "list" us.toArray c) →
      EachIs (fun u (x : Tp Str) => ∃ m ∈ L, u = Value.ref m.1 ∧ x = Tp.mk m.2) us (srt (L.map fun m => Tp.mk m.2)) → Z (.ref p) z) :
    wpAny (model P w) B (call (.builtin "sorted") [.ref a]) Z Ez s := by
  obtain ⟨o, ho, hex, hdat⟩ := T.obj
  have len := T.len
  have few := T.few
  refine Calls.call_function_entry kind_sorted plain_sorted entry_sorted (args_sorted1 _) ?_
  unfold Builtin.«sorted»
  refine wpAny_bind (m := checkCount "sorted" 1 1 _) (wpAny_pure ?_)
  apply wpAny_bind
  refine collect_set (A := B.in1) nh ⟨o, ho, hex.1, hdat⟩ T.fit (by unfold scanBound; omega) T.tab.ris T.led fun z vs k1 hz g1 o1 pm => ?_
  have ev : es.toList.map (·.2) = L.map fun m => Value.ref m.1 := by
    rw [T.row, txRows, List.map_map]; rfl
  rw [ev] at pm
  obtain ⟨M, eM, pM⟩ := perm_lift (fun m : Addr × List Str => Value.ref m.1) vs L pm
  have lv : vs.length < 64 := by rw [eM, List.length_map, pM.length_eq]; exact few
  apply wpAny_bind
  refine wpAny_newList ?_ (by rw [sizeLine_eq]; omega)
  have got : (z.heap.push (seqObj "list" vs.toArray 0)).get? z.heap.objs.size = some (seqObj "list" vs.toArray 0) := Heap.get?_push_size _ rfl
  have kp : ∀ b u, s.heap.get? b = some u → (z.heap.push (seqObj "list" vs.toArray 0)).get? b = some u := fun b u e => Heap.get?_push_of_some _ (k1 b u e)
  have below : ∀ b u, s.heap.get? b = some u → b ≠ z.heap.objs.size := fun b u e => Nat.ne_of_lt (Heap.lt_size (k1 b u e))
  have rd : EachIs (fun v d => ∃ as, Reads (PySem.W.sortingHeap (z.heap.push (seqObj "list" vs.toArray 0)) z.heap.objs.size vs) v d as) vs ((M.map fun m => Tp.mk m.2).map (Rep.enc : Tp Str → PyData)) := by
    have go : ∀ M2 : List (Addr × List Str), (∀ m ∈ M2, m ∈ L) → EachIs (fun v d => ∃ as, Reads (PySem.W.sortingHeap (z.heap.push (seqObj "list" vs.toArray 0)) z.heap.objs.size vs) v d as) (M2.map fun m => Value.ref m.1) ((M2.map fun m => Tp.mk m.2).map (Rep.enc : Tp Str → PyData)) := by
      intro M2
      induction M2 with
      | nil => exact fun _ => .nil
      | cons m M2 rec =>
        intro hm
        refine .cons ?_ (rec fun q hq => hm q (List.mem_cons_of_mem _ hq))
        exact tx_reads (tx_kept (T.mem m (hm m List.mem_cons_self)) fun u g => PySem.W.sortingHeap_old (below _ _ g) (kp _ _ g))
    have q := go M fun m hm => pM.mem_iff.mp hm
    rw [← eM] at q
    exact q
  have al : PySem.W.AllAlike ((M.map fun m => Tp.mk m.2).map (Rep.enc : Tp Str → PyData)) := fun d hd d2 hd2 => by
    obtain ⟨x, _, rfl⟩ := List.mem_map.mp hd
    obtain ⟨y, _, rfl⟩ := List.mem_map.mp hd2
    exact tx_alike x y
  have so := tx_sorts (prog := P) (w := w) (A := B.in1.in1) (s := { z with heap := PySem.W.sortingHeap (z.heap.push (seqObj "list" vs.toArray 0)) z.heap.objs.size vs }) rd (fun d hd => by
    obtain ⟨x, _, rfl⟩ := List.mem_map.mp hd
    exact ⟨_, rfl⟩) al (fun d hd => by
    obtain ⟨x, _, rfl⟩ := List.mem_map.mp hd
    have q : (Rep.enc x).depth ≤ 2 := Rep.dle x
    show B.units + 1 + 1 + _ < cLine
    omega)
  apply wpAny_bind
  apply wpAny_holding
  refine wpAny_call_entry slot_list_sort ⟨_, got, rfl⟩ entry_list_sort (PySem.W.list_sort_vals (s := { z with heap := z.heap.push (seqObj "list" vs.toArray 0) }) got so (by rw [sizeLine_eq]; omega) ⟨.none, rfl, ?_⟩) (args_list_sort _)
  apply wpAny_pure
  refine ⟨_, rfl, ?_⟩
  obtain ⟨c, hc⟩ := sortedHeap_at (vs := vs) (out := (PySem.W.sortVals (PySem.W.dataKind (PySem.W.sortingHeap (z.heap.push (seqObj "list" vs.toArray 0)) z.heap.objs.size vs) ((M.map fun m => Tp.mk m.2).map (Rep.enc : Tp Str → PyData))) false vs vs).toArray) got
  refine fin _ z.heap.objs.size _ c (fun b u e => ?_) g1 o1 hz hc ?_
  · show (sortedHeap (z.heap.push (seqObj "list" vs.toArray 0)) z.heap.objs.size vs _).get? b = some u
    rw [sortedHeap_old (below b u e) (by rw [size_push']; exact Nat.lt_succ_of_lt (Heap.lt_size (k1 b u e)))]
    exact kp b u e
  · rw [← srt_tp (pM.map fun m => Tp.mk m.2)]
    refine PySem.W.sortVals_each (κ := PySem.W.dataKind (PySem.W.sortingHeap (z.heap.push (seqObj "list" vs.toArray 0)) z.heap.objs.size vs) ((M.map fun m => Tp.mk m.2).map (Rep.enc : Tp Str → PyData))) (rev := false) (fun x : Tp Str => PySem.W.keyToks (Rep.enc x)) ?_ (each_undo (PySem.W.each_keys al rd))
    have go : ∀ M2 : List (Addr × List Str), (∀ m ∈ M2, m ∈ L) → EachIs (fun u (x : Tp Str) => ∃ m ∈ L, u = Value.ref m.1 ∧ x = Tp.mk m.2) (M2.map fun m => Value.ref m.1) (M2.map fun m => Tp.mk m.2) := by
      intro M2
      induction M2 with
      | nil => exact fun _ => .nil
      | cons m M2 rec =>
        intro hm
        exact .cons ⟨m, hm m List.mem_cons_self, rfl, rfl⟩ (rec fun q hq => hm q (List.mem_cons_of_mem _ hq))
    have q := go M fun m hm => pM.mem_iff.mp hm
    rw [← eM] at q
    exact q
end
end Cp
namespace Cp
open PySem PySem.Spec PyProof.Rows L2
def dist (xs : List Str) : Nat := xs.eraseDups.length
theorem dist_snoc (xs : List Str) (x : Str) : dist (xs ++ [x]) = if x ∈ xs then dist xs else dist xs + 1 := by
  unfold dist
  rw [List.eraseDups_append, List.length_append]
  by_cases h : x ∈ xs
  · rw [if_pos h]
    have e : [x].removeAll xs = [] := by simp [List.removeAll, h]
    rw [e]; rfl
  · rw [if_neg h]
    have e : [x].removeAll xs = [x] := by simp [List.removeAll, h]
    rw [e]; rfl
theorem dist_le : ∀ (n : Nat) (xs : List Str), xs.length ≤ n → dist xs ≤ xs.length
  | 0, [], _ => Nat.le_refl _
  | _ + 1, [], _ => Nat.le_refl _
  | n + 1, x :: xs, h => by
    have h1 := List.length_filter_le (fun b => !b == x) xs
    rw [List.length_cons] at h
    have h2 := dist_le n (xs.filter fun b => !b == x) (by omega)
    unfold dist at h2 ⊢
    rw [List.eraseDups_cons, List.length_cons, List.length_cons]
    omega
/-- the texts' set as it grows -/
def TxtSet (P : Program) (w : World) (T : Addr) (xs : List Str) (i : Nat) (h : Heap) : Prop := h.SetOf (PySem.strKind P w) T (fun k => decide (k ∈ xs.take i)) (dist (xs.take i))
theorem txt_one {P : Program} {w : World} {B : Around} {T : Addr} {xs : List Str} {items : Array Value} (hz : xs.length ≤ most) (hv : ∀ (i : Nat) (v : Value), items[i]? = some v → ∃ x t, xs[i]? = some x ∧ v = .str x t) :
    AddsOne P w B T items.size (fun i v => items[i]? = some v) (TxtSet P w T xs) := by
  intro i v s E Z hi hvi hJ hZ
  obtain ⟨x, t, hx, rfl⟩ := hv i v hvi
  have hz' : xs.length ≤ 4000 := hz
  have hd : dist (xs.take i) ≤ 4000 := by
    have h1 := dist_le _ (xs.take i) (Nat.le_refl _)
    rw [List.length_take] at h1
    omega
  unfold setAdd
  refine wpAny_holding (wpAny_bind ((PySem.strKind P w).pyHash (k := x) (strKind_is _ _ _ _) ?_))
  refine wpAny_setAddHashed_of (knd := PySem.strKind P w) (s := { s with toks := s.toks + 1 }) (k := x) (strKind_is _ _ _ _) rfl hJ (by unfold scanBound; omega) fun hp sb h2 => ?_
  refine hZ hp (s.toks + 1) (Nat.le_succ _) sb ?_
  have e : xs.take (i + 1) = xs.take i ++ [x] := by rw [List.take_succ, hx]; rfl
  unfold TxtSet
  rw [e, dist_snoc]
  refine SetOf_congr h2 (fun k => ?_) ?_
  · simp
  · by_cases c : x ∈ xs.take i
    · simp [c]
    · simp [c]
def tLenTx (K : PySem.W.Frag) (ta : TE) : TE := fun σ H Q => ta σ H fun x H1 => ∃ (l : Addr) (xs : List Str), x = .ref l ∧ SqL K H1 l (xs.map V.str) ∧ xs.length ≤ most ∧ Q (.int (dist xs)) H1
section
variable {X : Cx} {σ : L2.St} {S : Hp} {e : Expr} {pos : Pos}
theorem strs_get : ∀ {xs : List Str} {us : List Value}, Vals (xs.map V.str) us → ∀ (i : Nat) (v : Value), us[i]? = some v → ∃ x t, xs[i]? = some x ∧ v = .str x t
  | [], _, .nil, i, v, h => by simp at h
  | x :: xs, _, .cons r t, 0, v, h => by
    simp at h
    obtain ⟨k, rfl⟩ := r
    exact ⟨x, k, rfl, h.symm⟩
  | x :: xs, _, .cons r t, i + 1, v, h => by
    simp only [List.getElem?_cons_succ] at h ⊢
    exact strs_get t i v h
theorem pe_lenTx {ta : TE} {p p2 q : Pos} (hc : X.calm = true) (hg : Gl X "len") (hm : X.mg "len" = none) (hg2 : Gl X "set") (hm2 : X.mg "set" = none) (ha : PE X e ta) (na : starEach [e] X.env = (false, eval e X.env) :: starEach [] X.env) :
    PE X (.Call (.Name "len" p) [.Call (.Name "set" p2) [e] [] q] [] pos) (tLenTx X.K ta) := by
  constructor
  intro pins s σ H Q I h
  apply Call_ (ld_blt I hg hm boot_len _)
  apply PyProof.Rows.callWith_builtin1 (PyProof.Rows.args_cons _ rfl) rfl rfl
  apply Call_ (ld_blt I hg2 hm2 boot_set _)
  refine PyProof.Rows.callWith_type1 (PyProof.Rows.args_cons (thn (ha.run pins s σ H _ I h) fun v z hv => PyProof.Rows.args_nil ?_) na) na rfl
  obtain ⟨x, H1, I1, r1, l, xs, ex, hq, hz, q1⟩ := hv
  subst ex
  cases r1
  obtain ⟨its, r, pl, _⟩ := I1.list hq
  have hl : its.length = xs.length := by rw [← r.length, List.length_map]
  refine gs_call (I1.ok.hd hc) pl.isList (TxtSet X.prog X.w z.heap.objs.size xs) (fun led hp _ g _ => ?_) (fun i h hp j k => ?_) (txt_one hz fun i v hi => strs_get r i v (by simpa using hi)) fun hp tk j k => ?_
  · exact SetOf_congr ((setObjOf_fresh (knd := PySem.strKind X.prog X.w) led).setOf g (by unfold scanBound; omega)) (fun _ => by simp) rfl
  · obtain ⟨o, es, ep, t, ho, rest⟩ := j
    exact ⟨o, es, ep, t, k _ _ (fun c => absurd (List.mem_singleton.mp c) (Nat.ne_of_lt (Nat.lt_succ_self _))) ho, rest⟩
  · apply PyProof.Rows.args_nil
    have e2 : xs.take its.toArray.size = xs := List.take_of_length_le (by rw [List.size_toArray, hl]; exact Nat.le_refl _)
    unfold TxtSet at j
    rw [e2] at j
    obtain ⟨o, es, ep, t, ho, hex, hd, _, _, _, hf, hn⟩ := j
    have I2 : Inv X pins σ H1 { z with heap := hp, toks := tk } := I1.kept fun b o g => k b o (Heap.lt_size g) g
    have hdl := dist_le _ xs (Nat.le_refl _)
    have hz' : xs.length ≤ 4000 := hz
    exact call_len_set ho hex hd hf (by rw [hn]; omega) ⟨.int (dist xs), H1, I2.tok _, ⟨_, by rw [hn]⟩, q1⟩
theorem reps_txt {H : Hp} : ∀ {vs : List V} {xs : List Str}, Reps H vs xs → vs = xs.map V.str
  | _, _, .nil => rfl
  | _, _, .cons r t => by rw [List.map_cons, ← reps_txt t]; obtain ⟨rfl, _⟩ := r; rfl
theorem ge_lenset {xs : List Str} {p p2 q : Pos} (hm : X.mg "len" = none) (hm2 : X.mg "set" = none) (h : GE X e σ S (dt xs)) (hz : xs.length ≤ most) (hc : X.calm = true := by rfl) (hg : Gl X "len" := by rfl) (hg2 : Gl X "set" := by rfl) (na : starEach [e] X.env = (false, eval e X.env) :: starEach [] X.env := by rfl) :
    GE X (.Call (.Name "len" p) [.Call (.Name "set" p2) [e] [] q] [] pos) σ S (dt (dist xs : Int)) :=
  ge_of (pe_lenTx hc hg hm hg2 hm2 wE.pe na) fun S1 H1 c d Q qq => h S1 H1 c d _ fun v S2 H2 f hv => by
    obtain ⟨a, vs, rfl, ha, hl, hr⟩ := hv
    rw [reps_txt hr] at ha
    exact ⟨a, xs, rfl, SqL.of (f.sh _ _ ha), hl, qq _ S2 H2 f rfl⟩
def sset (xs : List (Tp Str)) : List (Tp Str) := srt xs.eraseDups
theorem eds_nodup {α : Type} [DecidableEq α] : ∀ (n : Nat) (xs : List α), xs.length ≤ n → xs.eraseDups.Nodup
  | _, [], _ => by simp
  | 0, _ :: _, h => absurd h (Nat.not_succ_le_zero _)
  | n + 1, x :: xs, h => by
    rw [List.eraseDups_cons, List.nodup_cons]
    refine ⟨fun hm => ?_, eds_nodup n _ (Nat.le_trans (List.length_filter_le _ xs) (Nat.le_of_succ_le_succ h))⟩
    have q := (List.mem_filter.mp (List.mem_eraseDups.mp hm)).2
    simp at q
theorem eds_len {α : Type} [DecidableEq α] : ∀ (n : Nat) (xs : List α), xs.length ≤ n → xs.eraseDups.length ≤ xs.length
  | _, [], _ => by simp
  | 0, _ :: _, h => absurd h (Nat.not_succ_le_zero _)
  | n + 1, x :: xs, h => by
    have q1 := List.length_filter_le (fun b => !b == x) xs
    have q2 := eds_len n (xs.filter fun b => !b == x) (Nat.le_trans q1 (Nat.le_of_succ_le_succ h))
    rw [List.eraseDups_cons, List.length_cons, List.length_cons]
    omega
theorem items_txt {P : Program} {w : World} : ∀ {k : List Str} {us : List Value}, Vals (k.map V.str) us → PySem.ItemsAre (PySem.strKind P w) k us
  | [], _, .nil => .nil
  | n :: k, _, .cons r t => by
    obtain ⟨tk, rfl⟩ := r
    exact .cons (strKind_is _ _ _ _) (items_txt t)
theorem tx_ks {pins : List (Addr × Obj)} {H : Hp} {z : Shared} (I : Inv X pins σ H z) (sh : Same S H) : ∀ {vs : List V} {us : List Value} {xs : List (Tp Str)}, Vals vs us → Reps S vs xs →
    ∃ ks : List (Addr × List Str), us = ks.map (fun m => Value.ref m.1) ∧ ks.map (fun m => Tp.mk m.2) = xs ∧ ∀ m ∈ ks, TxAt X.prog X.w z.heap m.2 m.1 ∧ Rep.rep S (V.ref m.1) (Tp.mk m.2)
  | _, _, _, .nil, .nil => ⟨[], rfl, rfl, fun m h => nomatch h⟩
  | _ :: _, _ :: _, x :: _, .cons r1 r2, .cons h1 h2 => by
    obtain ⟨ks, e1, e2, hk⟩ := tx_ks I sh r2 h2
    obtain ⟨p, ws, ev, g1, g2, g3⟩ := id h1
    subst ev
    cases r1
    refine ⟨(p, x.l) :: ks, by rw [e1, List.map_cons], by rw [List.map_cons, e2], fun m hm => ?_⟩
    rcases List.mem_cons.mp hm with e | e
    · subst e
      refine ⟨?_, h1⟩
      obtain ⟨its, rv, ⟨o, ho, hc, n, hd⟩, _⟩ := I.tuple (SqT.of (K := X.K) (sh _ _ g1))
      rw [reps_txt g3] at rv
      exact ⟨o, its.toArray, n, ho, hc, hd, by simpa using items_txt rv⟩
    · exact hk m e
def tSortTx (ta : TE) : TE := fun σ H Q => ta σ H fun x H1 => ∃ (S0 : Hp) (l : Addr) (vs : List V) (xs : List (Tp Str)), Same S0 H1 ∧ x = .ref l ∧ H1 l = some (.lst vs) ∧ Reps S0 vs xs ∧ xs.length < 60 ∧
  ∀ zs p, H1 p = none → Reps S0 zs (sset xs) → Q (.ref p) (upd H1 p (.lst zs))
theorem pe_sortTx {ta : TE} {k : Nat} {p p2 q : Pos} (hr : Room k X.A) (hc : X.calm = true) (hg : Gl X "sorted") (hm : X.mg "sorted" = none) (hg2 : Gl X "set") (hm2 : X.mg "set" = none) (ha : PE X e ta) (na : starEach [e] X.env = (false, eval e X.env) :: starEach [] X.env) :
    PE X (.Call (.Name "sorted" p) [.Call (.Name "set" p2) [e] [] q] [] pos) (tSortTx ta) := by
  have hu : X.A.units + 20 < cLine := by have := hr.un; omega
  constructor
  intro pins s σ H Q I h
  apply Call_ (ld_blt I hg hm boot_sorted' _)
  apply PyProof.Rows.callWith_builtin1 (PyProof.Rows.args_cons _ rfl) rfl rfl
  apply Call_ (ld_blt I hg2 hm2 boot_set _)
  refine PyProof.Rows.callWith_type1 (PyProof.Rows.args_cons (thn (ha.run pins s σ H _ I h) fun v z hv => PyProof.Rows.args_nil ?_) na) na rfl
  obtain ⟨x, H1, I1, r1, S0, l, vs, xs, sh, ex, hq, hr0, hz, q1⟩ := hv
  subst ex
  cases r1
  obtain ⟨its, r, pl, _⟩ := I1.list (SqL.of (K := X.K) hq)
  obtain ⟨ks, k1, k2, k3⟩ := tx_ks I1 sh r hr0
  have few : ks.length < 60 := by
    have q := congrArg List.length k2
    rw [List.length_map] at q
    omega
  have low : ∀ m ∈ ks, m.1 < z.heap.objs.size := fun m hm => by
    obtain ⟨o, its2, n, g, _⟩ := (k3 m hm).1
    exact Heap.lt_size g
  have szi : its.toArray.size = ks.length := by rw [List.size_toArray, k1, List.length_map]
  refine gs_call (I1.ok.hd hc) pl.isList (TxSet X.prog X.w z.heap.objs.size z.heap.objs.size ks) (fun led hp hl g kp => tx_start hl g fun m hm => ⟨low m hm, tx_kept (k3 m hm).1 fun o => kp _ o⟩) (fun i h hp j kp => tx_keep rfl j kp)
    (tx_one rfl (show X.A.units + 1 + 1 + 1 < cLine by omega) few (by rw [← k1])) fun hp tk j kp => ?_
  apply PyProof.Rows.args_nil
  rw [szi] at j
  obtain ⟨jk, L, es, ep, t, T, G⟩ := j
  have all := G.all
  have sub := G.sub
  rw [List.take_length] at all sub
  have I2 : Inv X pins σ H1 { z with heap := hp, toks := tk } := I1.kept fun b o g => kp b o (Heap.lt_size g) g
  have pm : (L.map fun m => Tp.mk m.2).Perm xs.eraseDups := by
    refine (List.perm_ext_iff_of_nodup ?_ (eds_nodup _ xs (Nat.le_refl _))).mpr fun y => ?_
    · have q : (L.map fun m => Tp.mk m.2) = (L.map (·.2)).map Tp.mk := by rw [List.map_map]; rfl
      rw [q]
      exact List.pairwise_map.mpr (T.one.imp fun ne e => ne (Tp.mk.inj e))
    · rw [List.mem_eraseDups, ← k2]
      constructor
      · intro h
        obtain ⟨m, hm, e⟩ := List.mem_map.mp h
        exact List.mem_map.mpr ⟨m, sub m hm, e⟩
      · intro h
        obtain ⟨m, hm, e⟩ := List.mem_map.mp h
        obtain ⟨m2, hm2, e2⟩ := List.mem_map.mp (all m hm)
        exact List.mem_map.mpr ⟨m2, hm2, by rw [← e, ← e2]⟩
  refine tx_sorted (s := { z with heap := hp, toks := tk }) T (I1.ok.hd hc) hu fun y a us c kp2 gg oo la at' each => ?_
  rw [srt_tp pm] at each
  obtain ⟨zs, v1, v2⟩ := each_back (H := S0) (α := Tp Str) (each.mono fun u x ⟨m, hm, e1, e2⟩ => ⟨V.ref m.1, by rw [e1]; rfl, by rw [e2]; exact (k3 m (sub m hm)).2⟩)
  have fresh : H1 a = none := I2.hok.fresh la
  have lz : zs.length ≤ sizeLine := by
    have q1 : zs.length = (srt xs.eraseDups).length := v2.len
    have q2 := pm.length_eq
    rw [List.length_map] at q2
    have q3 := G.len
    rw [q1, srt_len, ← q2, sizeLine_eq]
    omega
  have J : Inv X pins σ (upd H1 a (.lst zs)) { z with heap := y.heap, toks := y.toks } := I2.laid (t' := y.toks) kp2 la ⟨lz, us, c, v1, at'⟩
  exact ⟨.ref a, upd H1 a (.lst zs), ⟨J.ok, oo.trans J.os, by rw [gg]; exact J.bare, J.base, J.loc, J.cell, J.free, J.freeC, J.pin, J.hok, J.len⟩, rfl, q1 zs a fresh v2⟩
theorem ge_sortset {xs : List (Tp Str)} {k : Nat} {p p2 q : Pos} (hr : Room k X.A) (hm : X.mg "sorted" = none) (hm2 : X.mg "set" = none) (h : GE X e σ S (dt xs)) (hz : xs.length < 60) (hc : X.calm = true := by rfl) (hg : Gl X "sorted" := by rfl) (hg2 : Gl X "set" := by rfl)
    (na : starEach [e] X.env = (false, eval e X.env) :: starEach [] X.env := by rfl) : GE X (.Call (.Name "sorted" p) [.Call (.Name "set" p2) [e] [] q] [] pos) σ S (dt (sset xs)) :=
  ge_of (pe_sortTx hr hc hg hm hg2 hm2 wE.pe na) fun S1 H1 c d Q qq => h S1 H1 c d _ fun v S2 H2 f hv => by
    obtain ⟨a, vs, rfl, ha, hl, hv⟩ := hv
    refine ⟨S2, a, vs, xs, f.sh, rfl, f.sh _ _ ha, hv, hz, fun zs l hn h2 => ?_⟩
    have n := Fp.new (o := .lst zs) f.sh hn
    have lim : (sset xs).length ≤ most := by
      unfold sset
      rw [srt_len]
      have q1 : xs.eraseDups.length ≤ xs.length := eds_len _ xs (Nat.le_refl _)
      have q2 : most = 4000 := rfl
      omega
    exact qq _ _ _ (f.trans n) ⟨l, zs, rfl, upd_same, lim, h2.mono n.ss⟩
end
end Cp
namespace Cp
open PySem PySem.Spec PyProof.Rows L2
section
variable {P : Program} {w : World} {K : PySem.W.Frag} {mg : Str → Option Value} {base : Heap}
def m_is_name (value : Str) : Bool := (cond ((!true) || ((decide ((value.length : Int) < (1 : Int))) || (decide ((8 : Int) < (value.length : Int))))) false (decide ((List.filter (fun (y2 : Str) => (!inSign y2 letters)) (signs value)) = [])))
abbrev n_s_is_name : List Str := ["value", "sign"]
theorem sc_is_name : FnScope n_s_is_name ["value"] (defScope s_is_name) := ⟨rfl, rfl, rfl, by decide +kernel, rfl, by decide +kernel, by decide +kernel⟩
abbrev P_is_name : Sp := Pr (Str) (fun a => [dt a]) (fun a => dt (m_is_name a)) (fun _ => True)
theorem w_is_name (T : Top K mg) : Has P w K mg base "is_name" ["value"] 1 P_is_name := by
  obtain ⟨fd, F, g⟩ := T.fn 0 rfl rfl rfl
  refine has_of F g (F.bindsN fun _ _ _ _ _ _ us hl => match us, hl with | [_], _ => rfl) sc_is_name (fun _ => rfl) ?_
  have nd := sc_is_name.nd
  have b_isinstance := T.free 62
  have b_len := T.free 61
  have b_str := T.free 73
  intro cdv A0 outer s H E hr value S vs D hS h hp q hn
  obtain ⟨v_value, _, rfl, h_value, rfl⟩ := h
  exact wss_cons (ws_if (gt_w (gw_or (gt_not (gt_val (ge_isi_str b_isinstance b_str (ge_name 0 rfl h_value)))) fun _ => (gw_or (gt_lt (ge_slen' b_len (ge_name 0 rfl h_value)) ge_int) fun _ => (gw_or1 (gt_gt (ge_slen' b_len (ge_name 0 rfl h_value)) ge_int))))) (Fp.refl hS).sh (fun hk1 S1 H1 f1 => wss_one (ws_ret ((Fp.refl hS).trans f1) ge_bool (fun v S' H' f h => q v S' H' f (cast_rep (cond_t hk1) h)))) (fun hk1 S1 H1 f1 => wss_nil (wss_one (ws_ret ((Fp.refl hS).trans f1) (ge_eq hr (ge_flt n_s_is_name (defScope s_is_name) 1 (fun (y2 : Str) => (!inSign y2 letters)) rfl nd (gi_str (ge_name 0 rfl (Rep.mono f1.ss h_value))) (by rw [signs_len]; exact (Rep.mono f1.ss h_value).2.2) (fun y2 v2 S2 hs2 hm2 hv2 _ _ _ _ _ => gts_one (gt_niSign (ge_name 1 rfl hv2) (ge_letters T) (sg_of hm2))) (fun y2 v2 S2 hs2 hm2 hp2 hv2 _ _ _ _ _ => (ge_name 1 rfl hv2))) ge_nil) (fun v S' H' f h => q v S' H' f (cast_rep (cond_f hk1 rfl) h))))))
def m_are_names (value : List Str) : Bool := (cond ((!true) || (!decide ((List.filter (fun (y3 : Str) => (!(m_is_name y3))) value) = []))) false (decide ((dist value : Int) = (value.length : Int))))
abbrev n_s_are_names : List Str := ["value", "name"]
theorem sc_are_names : FnScope n_s_are_names ["value"] (defScope s_are_names) := ⟨rfl, rfl, rfl, by decide +kernel, rfl, by decide +kernel, by decide +kernel⟩
abbrev P_are_names : Sp := Pr (List Str) (fun a => [dt a]) (fun a => dt (m_are_names a)) (fun _ => True)
theorem w_are_names (T : Top K mg) (c_is_name : Has P w K mg base "is_name" ["value"] 1 P_is_name) : Has P w K mg base "are_names" ["value"] 2 P_are_names := by
  obtain ⟨fd, F, g⟩ := T.fn 1 rfl rfl rfl
  refine has_of F g (F.bindsN fun _ _ _ _ _ _ us hl => match us, hl with | [_], _ => rfl) sc_are_names (fun _ => rfl) ?_
  have nd := sc_are_names.nd
  have b_isinstance := T.free 62
  have b_len := T.free 61
  have b_list := T.free 63
  have b_set := T.free 65
  intro cdv A0 outer s H E hr value S vs D hS h hp q hn
  obtain ⟨v_value, _, rfl, h_value, rfl⟩ := h
  exact wss_cons (ws_if (gt_w (gw_or (gt_not (gt_val (ge_isi_list b_isinstance b_list (ge_name 0 rfl h_value)))) fun _ => (gw_or1 (gt_ne hr (ge_flt n_s_are_names (defScope s_are_names) 1 (fun (y3 : Str) => (!(m_is_name y3))) rfl nd (gi_list (ge_name 0 rfl h_value)) (rep_small h_value) (fun y3 v3 S3 hs3 hm3 hv3 _ _ _ _ _ => gts_one (gt_not (gt_val (ge_call (dt (m_is_name y3)) c_is_name hr y3 (gA_cons (ge_name 1 rfl hv3) gA_nil) trivial)))) (fun y3 v3 S3 hs3 hm3 hp3 hv3 _ _ _ _ _ => (ge_name 1 rfl hv3))) ge_nil)))) (Fp.refl hS).sh (fun hk4 S4 H4 f4 => wss_one (ws_ret ((Fp.refl hS).trans f4) ge_bool (fun v S' H' f h => q v S' H' f (cast_rep (cond_t hk4) h)))) (fun hk4 S4 H4 f4 => wss_nil (wss_one (ws_ret ((Fp.refl hS).trans f4) (ge_eq hr (ge_lenset b_len b_set (ge_name 0 rfl (Rep.mono f4.ss h_value)) (rep_small (Rep.mono f4.ss h_value))) (ge_len b_len (ge_name 0 rfl (Rep.mono f4.ss h_value)))) (fun v S' H' f h => q v S' H' f (cast_rep (cond_f hk4 rfl) h))))))
def m_are_entries (value : List Str) : Bool := ((m_are_names value) && (!decide (value = [])))
abbrev n_s_are_entries : List Str := ["value"]
theorem sc_are_entries : FnScope n_s_are_entries ["value"] (defScope s_are_entries) := ⟨rfl, rfl, rfl, by decide +kernel, rfl, by decide +kernel, by decide +kernel⟩
abbrev P_are_entries : Sp := Pr (List Str) (fun a => [dt a]) (fun a => dt (m_are_entries a)) (fun _ => True)
theorem w_are_entries (T : Top K mg) (c_are_names : Has P w K mg base "are_names" ["value"] 2 P_are_names) : Has P w K mg base "are_entries" ["value"] 3 P_are_entries := by
  obtain ⟨fd, F, g⟩ := T.fn 2 rfl rfl rfl
  refine has_of F g (F.bindsN fun _ _ _ _ _ _ us hl => match us, hl with | [_], _ => rfl) sc_are_entries (fun _ => rfl) ?_
  have nd := sc_are_entries.nd
  intro cdv A0 outer s H E hr value S vs D hS h hp q hn
  obtain ⟨v_value, _, rfl, h_value, rfl⟩ := h
  exact wss_one (ws_ret (Fp.refl hS) (ge_and (ge_call (dt (m_are_names value)) c_are_names hr value (gA_cons (ge_name 0 rfl h_value) gA_nil) trivial) fun _ => (ge_one (ge_ne hr (ge_name 0 rfl h_value) ge_nil))) q)
def m_is_ascending (value : List Str) : Bool := ((m_are_names value) && (decide (value = (srt value))))
abbrev n_s_is_ascending : List Str := ["value"]
theorem sc_is_ascending : FnScope n_s_is_ascending ["value"] (defScope s_is_ascending) := ⟨rfl, rfl, rfl, by decide +kernel, rfl, by decide +kernel, by decide +kernel⟩
abbrev P_is_ascending : Sp := Pr (List Str) (fun a => [dt a]) (fun a => dt (m_is_ascending a)) (fun _ => True)
theorem w_is_ascending (T : Top K mg) (c_are_names : Has P w K mg base "are_names" ["value"] 2 P_are_names) : Has P w K mg base "is_ascending" ["value"] 3 P_is_ascending := by
  obtain ⟨fd, F, g⟩ := T.fn 3 rfl rfl rfl
  refine has_of F g (F.bindsN fun _ _ _ _ _ _ us hl => match us, hl with | [_], _ => rfl) sc_is_ascending (fun _ => rfl) ?_
  have nd := sc_is_ascending.nd
  have b_sorted := T.free 64
  intro cdv A0 outer s H E hr value S vs D hS h hp q hn
  obtain ⟨v_value, _, rfl, h_value, rfl⟩ := h
  exact wss_one (ws_ret (Fp.refl hS) (ge_and (ge_call (dt (m_are_names value)) c_are_names hr value (gA_cons (ge_name 0 rfl h_value) gA_nil) trivial) fun _ => (ge_one (ge_eq hr (ge_name 0 rfl h_value) (ge_sorted hr b_sorted (ge_name 0 rfl h_value))))) q)
def m_is_lot (value : List Str) (entries : List Str) : Bool := ((m_is_ascending value) && (decide ((List.filter (fun (y5 : Str) => (!decide (y5 ∈ entries))) value) = [])))
abbrev n_s_is_lot : List Str := ["value", "entries", "name"]
theorem sc_is_lot : FnScope n_s_is_lot ["value", "entries"] (defScope s_is_lot) := ⟨rfl, rfl, rfl, by decide +kernel, rfl, by decide +kernel, by decide +kernel⟩
abbrev P_is_lot : Sp := Pr (List Str × List Str) (fun a => [dt a.1, dt a.2]) (fun a => dt (m_is_lot a.1 a.2)) (fun _ => True)
theorem w_is_lot (T : Top K mg) (c_is_ascending : Has P w K mg base "is_ascending" ["value"] 3 P_is_ascending) : Has P w K mg base "is_lot" ["value", "entries"] 4 P_is_lot := by
  obtain ⟨fd, F, g⟩ := T.fn 4 rfl rfl rfl
  refine has_of F g (F.bindsN fun _ _ _ _ _ _ us hl => match us, hl with | [_, _], _ => rfl) sc_is_lot (fun _ => rfl) ?_
  have nd := sc_is_lot.nd
  intro cdv A0 outer s H E hr ⟨value, entries⟩ S vs D hS h hp q hn
  obtain ⟨v_value, _, rfl, h_value, v_entries, _, rfl, h_entries, rfl⟩ := h
  exact wss_one (ws_ret (Fp.refl hS) (ge_and (ge_call (dt (m_is_ascending value)) c_is_ascending hr value (gA_cons (ge_name 0 rfl h_value) gA_nil) trivial) fun _ => (ge_one (ge_eq hr (ge_flt n_s_is_lot (defScope s_is_lot) 2 (fun (y5 : Str) => (!decide (y5 ∈ entries))) rfl nd (gi_list (ge_name 0 rfl h_value)) (rep_small h_value) (fun y5 v5 S5 hs5 hm5 hv5 _ _ _ _ _ => gts_one (gt_ni hr (ge_name 2 rfl hv5) (ge_name 1 rfl (Rep.mono hs5 h_entries)))) (fun y5 v5 S5 hs5 hm5 hp5 hv5 _ _ _ _ _ => (ge_name 2 rfl hv5))) ge_nil))) q)
def m_is_field (value : List Str) (entries : List Str) : Bool := ((m_is_lot value entries) && (!decide (value = [])))
abbrev n_s_is_field : List Str := ["value", "entries"]
theorem sc_is_field : FnScope n_s_is_field ["value", "entries"] (defScope s_is_field) := ⟨rfl, rfl, rfl, by decide +kernel, rfl, by decide +kernel, by decide +kernel⟩
abbrev P_is_field : Sp := Pr (List Str × List Str) (fun a => [dt a.1, dt a.2]) (fun a => dt (m_is_field a.1 a.2)) (fun _ => True)
theorem w_is_field (T : Top K mg) (c_is_lot : Has P w K mg base "is_lot" ["value", "entries"] 4 P_is_lot) : Has P w K mg base "is_field" ["value", "entries"] 5 P_is_field := by
  obtain ⟨fd, F, g⟩ := T.fn 5 rfl rfl rfl
  refine has_of F g (F.bindsN fun _ _ _ _ _ _ us hl => match us, hl with | [_, _], _ => rfl) sc_is_field (fun _ => rfl) ?_
  have nd := sc_is_field.nd
  intro cdv A0 outer s H E hr ⟨value, entries⟩ S vs D hS h hp q hn
  obtain ⟨v_value, _, rfl, h_value, v_entries, _, rfl, h_entries, rfl⟩ := h
  exact wss_one (ws_ret (Fp.refl hS) (ge_and (ge_call (dt (m_is_lot value entries)) c_is_lot hr (value, entries) (gA_cons (ge_name 0 rfl h_value) (gA_cons (ge_name 1 rfl h_entries) gA_nil)) trivial) fun _ => (ge_one (ge_ne hr (ge_name 0 rfl h_value) ge_nil))) q)
def m_is_row (value : List Str) (entries : List Str) : Bool := ((m_are_names value) && (decide ((srt value) = (srt entries))))
abbrev n_s_is_row : List Str := ["value", "entries"]
theorem sc_is_row : FnScope n_s_is_row ["value", "entries"] (defScope s_is_row) := ⟨rfl, rfl, rfl, by decide +kernel, rfl, by decide +kernel, by decide +kernel⟩
abbrev P_is_row : Sp := Pr (List Str × List Str) (fun a => [dt a.1, dt a.2]) (fun a => dt (m_is_row a.1 a.2)) (fun _ => True)
theorem w_is_row (T : Top K mg) (c_are_names : Has P w K mg base "are_names" ["value"] 2 P_are_names) : Has P w K mg base "is_row" ["value", "entries"] 3 P_is_row := by
  obtain ⟨fd, F, g⟩ := T.fn 8 rfl rfl rfl
  refine has_of F g (F.bindsN fun _ _ _ _ _ _ us hl => match us, hl with | [_, _], _ => rfl) sc_is_row (fun _ => rfl) ?_
  have nd := sc_is_row.nd
  have b_sorted := T.free 64
  intro cdv A0 outer s H E hr ⟨value, entries⟩ S vs D hS h hp q hn
  obtain ⟨v_value, _, rfl, h_value, v_entries, _, rfl, h_entries, rfl⟩ := h
  exact wss_one (ws_ret (Fp.refl hS) (ge_and (ge_call (dt (m_are_names value)) c_are_names hr value (gA_cons (ge_name 0 rfl h_value) gA_nil) trivial) fun _ => (ge_one (ge_eq hr (ge_sorted hr b_sorted (ge_name 0 rfl h_value)) (ge_sorted hr b_sorted (ge_name 1 rfl h_entries))))) q)
def m_are_rows (value : List (List Str)) (entries : List Str) : Bool := (true && (decide ((List.filter (fun (y6 : List Str) => (!(m_is_row y6 entries))) value) = [])))
abbrev n_s_are_rows : List Str := ["value", "entries", "row"]
theorem sc_are_rows : FnScope n_s_are_rows ["value", "entries"] (defScope s_are_rows) := ⟨rfl, rfl, rfl, by decide +kernel, rfl, by decide +kernel, by decide +kernel⟩
abbrev P_are_rows : Sp := Pr (List (List Str) × List Str) (fun a => [dt a.1, dt a.2]) (fun a => dt (m_are_rows a.1 a.2)) (fun _ => True)
theorem w_are_rows (T : Top K mg) (c_is_row : Has P w K mg base "is_row" ["value", "entries"] 3 P_is_row) : Has P w K mg base "are_rows" ["value", "entries"] 4 P_are_rows := by
  obtain ⟨fd, F, g⟩ := T.fn 9 rfl rfl rfl
  refine has_of F g (F.bindsN fun _ _ _ _ _ _ us hl => match us, hl with | [_, _], _ => rfl) sc_are_rows (fun _ => rfl) ?_
  have nd := sc_are_rows.nd
  have b_isinstance := T.free 62
  have b_list := T.free 63
  intro cdv A0 outer s H E hr ⟨value, entries⟩ S vs D hS h hp q hn
  obtain ⟨v_value, _, rfl, h_value, v_entries, _, rfl, h_entries, rfl⟩ := h
  exact wss_one (ws_ret (Fp.refl hS) (ge_and (ge_isi_list b_isinstance b_list (ge_name 0 rfl h_value)) fun _ => (ge_one (ge_eq hr (ge_flt n_s_are_rows (defScope s_are_rows) 2 (fun (y6 : List Str) => (!(m_is_row y6 entries))) rfl nd (gi_list (ge_name 0 rfl h_value)) (rep_small h_value) (fun y6 v6 S6 hs6 hm6 hv6 _ _ _ _ _ => gts_one (gt_not (gt_val (ge_call (dt (m_is_row y6 entries)) c_is_row hr (y6, entries) (gA_cons (ge_name 2 rfl hv6) (gA_cons (ge_name 1 rfl (Rep.mono hs6 h_entries)) gA_nil)) trivial)))) (fun y6 v6 S6 hs6 hm6 hp6 hv6 _ _ _ _ _ => (ge_name 2 rfl hv6))) ge_nil))) q)
def m_is_line (value : Ln) (names : List Str) : Bool := (cond ((!true) || ((!decide ((3 : Int) = (3 : Int))) || (!true))) false (cond ((!decide (value.word ∈ ([("call" : Str), ("off" : Str)] : List Str))) || ((!(m_is_field value.lot names)) || ((!(m_is_name value.who)) || (!decide (value.who ∈ names))))) false (decide ((decide (value.who ∈ value.lot)) = (decide (value.word = ("call" : Str)))))))
abbrev n_s_is_line : List Str := ["value", "names", "word", "lot", "entry"]
theorem sc_is_line : FnScope n_s_is_line ["value", "names"] (defScope s_is_line) := ⟨rfl, rfl, rfl, by decide +kernel, rfl, by decide +kernel, by decide +kernel⟩
abbrev P_is_line : Sp := Pr (Ln × List Str) (fun a => [dt a.1, dt a.2]) (fun a => dt (m_is_line a.1 a.2)) (fun _ => True)
theorem w_is_line (T : Top K mg) (c_is_name : Has P w K mg base "is_name" ["value"] 1 P_is_name) (c_is_field : Has P w K mg base "is_field" ["value", "entries"] 5 P_is_field) : Has P w K mg base "is_line" ["value", "names"] 6 P_is_line := by
  obtain ⟨fd, F, g⟩ := T.fn 11 rfl rfl rfl
  refine has_of F g (F.bindsN fun _ _ _ _ _ _ us hl => match us, hl with | [_, _], _ => rfl) sc_is_line (fun _ => rfl) ?_
  have nd := sc_is_line.nd
  have b_isinstance := T.free 62
  have b_len := T.free 61
  have b_str := T.free 73
  have b_tuple := T.free 70
  intro cdv A0 outer s H E hr ⟨value, names⟩ S vs D hS h hp q hn
  obtain ⟨v_value, _, rfl, h_value, v_names, _, rfl, h_names, rfl⟩ := h
  exact wss_cons (ws_if (gt_w (gw_or (gt_not (gt_val (ge_isi_tuple b_isinstance b_tuple (ge_name 0 rfl h_value)))) fun _ => (gw_or (gt_ne hr (ge_lenLn b_len (ge_name 0 rfl h_value)) ge_int) fun _ => (gw_or1 (gt_not (gt_val (ge_isi_str b_isinstance b_str (ge_lnix0 (ge_name 0 rfl h_value))))))))) (Fp.refl hS).sh (fun hk7 S7 H7 f7 => wss_one (ws_ret ((Fp.refl hS).trans f7) ge_bool (fun v S' H' f h => q v S' H' f (cast_rep (cond_t hk7) h)))) (fun hk7 S7 H7 f7 => wss_nil (wss_cons (ws_unln 2 3 4 rfl nd (ge_name 0 rfl (Rep.mono f7.ss h_value)) ((Fp.refl hS).trans f7).sh (fun v8a v8b v8c S8 H8 f8 h8_word h8_lot h8_entry => wss_cons (ws_if (gt_w (gw_or (gt_niT2 (ge_name 2 rfl h8_word)) fun _ => (gw_or (gt_not (gt_val (ge_call (dt (m_is_field value.lot names)) c_is_field hr (value.lot, names) (gA_cons (ge_name 3 rfl h8_lot) (gA_cons (ge_name 1 rfl (Rep.mono f8.ss (Rep.mono f7.ss h_names))) gA_nil)) trivial))) fun _ => (gw_or (gt_not (gt_val (ge_call (dt (m_is_name value.who)) c_is_name hr value.who (gA_cons (ge_name 4 rfl h8_entry) gA_nil) trivial))) fun _ => (gw_or1 (gt_ni hr (ge_name 4 rfl h8_entry) (ge_name 1 rfl (Rep.mono f8.ss (Rep.mono f7.ss h_names))))))))) (((Fp.refl hS).trans f7).trans f8).sh (fun hk9 S9 H9 f9 => wss_one (ws_ret ((((Fp.refl hS).trans f7).trans f8).trans f9) ge_bool (fun v S' H' f h => q v S' H' f (cast_rep (cond_f hk7 (cond_t hk9)) h)))) (fun hk9 S9 H9 f9 => wss_nil (wss_one (ws_ret ((((Fp.refl hS).trans f7).trans f8).trans f9) (ge_eq hr (ge_in hr (ge_name 4 rfl (Rep.mono f9.ss h8_entry)) (ge_name 3 rfl (Rep.mono f9.ss h8_lot))) (ge_eq hr (ge_name 2 rfl (Rep.mono f9.ss h8_word)) ge_str)) (fun v S' H' f h => q v S' H' f (cast_rep (cond_f hk7 (cond_f hk9 rfl)) h)))))))))))
def m_copied (line : Ln) : Ln := (⟨(line).word, (line).lot, (line).who⟩ : Ln)
abbrev n_s_copied : List Str := ["line"]
theorem sc_copied : FnScope n_s_copied ["line"] (defScope s_copied) := ⟨rfl, rfl, rfl, by decide +kernel, rfl, by decide +kernel, by decide +kernel⟩
abbrev P_copied : Sp := Pr (Ln) (fun a => [dt a]) (fun a => dt (m_copied a)) (fun _ => True)
theorem w_copied (T : Top K mg) : Has P w K mg base "copied" ["line"] 1 P_copied := by
  obtain ⟨fd, F, g⟩ := T.fn 12 rfl rfl rfl
  refine has_of F g (F.bindsN fun _ _ _ _ _ _ us hl => match us, hl with | [_], _ => rfl) sc_copied (fun _ => rfl) ?_
  have nd := sc_copied.nd
  have b_list := T.free 63
  intro cdv A0 outer s H E hr line S vs D hS h hp q hn
  obtain ⟨v_line, _, rfl, h_line, rfl⟩ := h
  exact wss_one (ws_ret (Fp.refl hS) (ge_ln (gA_cons (ge_lnix0 (ge_name 0 rfl h_line)) (gA_cons (ge_list b_list (ge_lnix1 (ge_name 0 rfl h_line))) (gA_cons (ge_lnix2 (ge_name 0 rfl h_line)) gA_nil)))) q)
def m_is_part (one : List Str) (other : List Str) : Bool := (decide ((List.filter (fun (y10 : Str) => (!decide (y10 ∈ other))) one) = []))
abbrev n_s_is_part : List Str := ["one", "other", "name"]
theorem sc_is_part : FnScope n_s_is_part ["one", "other"] (defScope s_is_part) := ⟨rfl, rfl, rfl, by decide +kernel, rfl, by decide +kernel, by decide +kernel⟩
abbrev P_is_part : Sp := Pr (List Str × List Str) (fun a => [dt a.1, dt a.2]) (fun a => dt (m_is_part a.1 a.2)) (fun _ => True)
theorem w_is_part (T : Top K mg) : Has P w K mg base "is_part" ["one", "other"] 1 P_is_part := by
  obtain ⟨fd, F, g⟩ := T.fn 19 rfl rfl rfl
  refine has_of F g (F.bindsN fun _ _ _ _ _ _ us hl => match us, hl with | [_, _], _ => rfl) sc_is_part (fun _ => rfl) ?_
  have nd := sc_is_part.nd
  intro cdv A0 outer s H E hr ⟨one, other⟩ S vs D hS h hp q hn
  obtain ⟨v_one, _, rfl, h_one, v_other, _, rfl, h_other, rfl⟩ := h
  exact wss_one (ws_ret (Fp.refl hS) (ge_eq hr (ge_flt n_s_is_part (defScope s_is_part) 2 (fun (y10 : Str) => (!decide (y10 ∈ other))) rfl nd (gi_list (ge_name 0 rfl h_one)) (rep_small h_one) (fun y10 v10 S10 hs10 hm10 hv10 _ _ _ _ _ => gts_one (gt_ni hr (ge_name 2 rfl hv10) (ge_name 1 rfl (Rep.mono hs10 h_other)))) (fun y10 v10 S10 hs10 hm10 hp10 hv10 _ _ _ _ _ => (ge_name 2 rfl hv10))) ge_nil) q)
end
end Cp
namespace Cp
open PySem PySem.Spec PyProof.Rows L2
/-! ### loops that carry one name -/
section
variable {X : Cx} {σ : L2.St} {S H S0 H0 : Hp} {e : Expr} {body : List Stmt} {pos tpos : Pos} {D : Ends} {α β : Type} [Rep α]
/-- what a loop's turn has to reach: some state with the invariant -/
def Nx1 (r : β → Rl) (τ : V → Option V → L2.St) (S1 H1 : Hp) (I : β → Prop) : L2.St → Hp → Prop := fun σ4 H4 => ∃ S4 vb y b, Fp S1 H1 S4 H4 ∧ σ4 = τ vb y ∧ (r b).p S4 vb ∧ I b
theorem ws_for1 {xs : List α} {x : Str} {iter : Expr} (j : Nat) (r : β → Rl) (τ : V → Option V → L2.St) (I : Nat → β → Prop) {vb0 : V} {y0 : Option V} {b0 : β} (hp : PassesOwn (model X.prog X.w) X.A X.env X.xe) (hc : X.calm = true) (hN : X.N.Nodup)
    (hi : GI X (.Name x tpos) iter σ S xs) (hS : Same S H) (h0 : (r b0).p S vb0) (hI : I 0 b0)
    (ht : ∀ i x v b vb S' H', xs[i]? = some x → Fp S H S' H' → (r b).p S' vb → I i b → Rep.rep S' v x →
      wSs X body { D with nx := Nx1 r τ S' H' (I (i + 1)), ct := Nx1 r τ S' H' (I (i + 1)), bk := D.nx } (τ vb (some v)) H')
    (hd : ∀ b vb y S' H', Fp S H S' H' → (r b).p S' vb → I xs.length b → D.nx (τ vb y) H')
    (eσ : σ = τ vb0 y0 := by rfl) (eτ : ∀ vb y v, (τ vb y).set j (some v) = τ vb (some v) := by intro _ _ _; rfl) (hx : X.N[j]? = some x := by rfl) (hl : Loc X.env.scope x := by first | exact Or.inl rfl | exact Or.inr rfl)
    (hf : X.fn x = true ∨ X.env.scope.names.lookup x = some .local := by first | exact .inl rfl | exact .inr rfl) (hfs : ∀ x, foldedSetIterable iter X.env x = pure x := by intro _; rfl) : wS X (.For (.Name x tpos) iter body [] pos) D σ H :=
  ws_for hp hc hi (pg_name hN hx hl hf) hS (fun S2 H2 i σ' S' H' => Fp S2 H2 S' H' ∧ ∃ vb y b, σ' = τ vb y ∧ (r b).p S' vb ∧ I i b)
    (fun S2 H2 f2 => ⟨Fp.refl f2.sh, vb0, y0, b0, eσ, (r b0).m f2.ss h0, hI⟩)
    (fun S2 H2 f2 i σ' S' H' w => ⟨w.1.ss, w.1.sh⟩)
    (fun S2 H2 f2 i x v σ' S' H' S'' H'' hx w fy hv => by
      obtain ⟨f, vb, y, b, rfl, hb, hI⟩ := w
      show wSs X body _ ((τ vb y).set j (some v)) H''
      rw [eτ]
      have k := ht i x v b vb S'' H'' hx ((f2.trans f).trans fy) ((r b).m fy.ss hb) hI hv
      refine wSs_mk fun pins s Iv => thn (wSs_run k pins s Iv) fun fl s' q => ?_
      have up : ∀ σ4 H4, Nx1 r τ S'' H'' (I (i + 1)) σ4 H4 → ∃ S4, Fp S2 H2 S4 H4 ∧ ∃ vb y b, σ4 = τ vb y ∧ (r b).p S4 vb ∧ I (i + 1) b := fun σ4 H4 ⟨S4, vb, y, b, f4, e4, hb4, hI4⟩ => ⟨S4, (f.trans fy).trans f4, vb, y, b, e4, hb4, hI4⟩
      cases fl with
      | next => obtain ⟨σ4, H4, I4, q4⟩ := q; exact ⟨σ4, H4, I4, up σ4 H4 q4⟩
      | cont => obtain ⟨σ4, H4, I4, q4⟩ := q; exact ⟨σ4, H4, I4, up σ4 H4 q4⟩
      | brk => exact q
      | ret u => exact q)
    (fun S2 H2 f2 σ' S' H' w => by
      obtain ⟨f, vb, y, b, rfl, hb, hI⟩ := w
      exact hd b vb y S' H' (f2.trans f) hb hI) hfs
end
/-! ### loops that carry nothing -/
section
variable {X : Cx} {σ : L2.St} {S H S0 H0 : Hp} {e : Expr} {body : List Stmt} {pos tpos : Pos} {D : Ends} {α β : Type} [Rep α]
def Nx0 (τ : Option V → L2.St) (S1 H1 : Hp) (I : Prop) : L2.St → Hp → Prop := fun σ4 H4 => ∃ S4 y, Fp S1 H1 S4 H4 ∧ σ4 = τ y ∧ I
theorem ws_for0 {xs : List α} {x : Str} {iter : Expr} (j : Nat) (τ : Option V → L2.St) (I : Nat → Prop) {y0 : Option V} (hp : PassesOwn (model X.prog X.w) X.A X.env X.xe) (hc : X.calm = true) (hN : X.N.Nodup)
    (hi : GI X (.Name x tpos) iter σ S xs) (hS : Same S H) (hI : I 0)
    (ht : ∀ i x v S' H', xs[i]? = some x → Fp S H S' H' → I i → Rep.rep S' v x →
      wSs X body { D with nx := Nx0 τ S' H' (I (i + 1)), ct := Nx0 τ S' H' (I (i + 1)), bk := D.nx } (τ (some v)) H')
    (hd : ∀ y S' H', Fp S H S' H' → I xs.length → D.nx (τ y) H')
    (eσ : σ = τ y0 := by rfl) (eτ : ∀ y v, (τ y).set j (some v) = τ (some v) := by intro _ _; rfl) (hx : X.N[j]? = some x := by rfl) (hl : Loc X.env.scope x := by first | exact Or.inl rfl | exact Or.inr rfl)
    (hf : X.fn x = true ∨ X.env.scope.names.lookup x = some .local := by first | exact .inl rfl | exact .inr rfl) (hfs : ∀ x, foldedSetIterable iter X.env x = pure x := by intro _; rfl) : wS X (.For (.Name x tpos) iter body [] pos) D σ H :=
  ws_for hp hc hi (pg_name hN hx hl hf) hS (fun S2 H2 i σ' S' H' => Fp S2 H2 S' H' ∧ ∃ y, σ' = τ y ∧ I i)
    (fun S2 H2 f2 => ⟨Fp.refl f2.sh, y0, eσ, hI⟩)
    (fun S2 H2 f2 i σ' S' H' w => ⟨w.1.ss, w.1.sh⟩)
    (fun S2 H2 f2 i x v σ' S' H' S'' H'' hx w fy hv => by
      obtain ⟨f, y, rfl, hI⟩ := w
      show wSs X body _ ((τ y).set j (some v)) H''
      rw [eτ]
      have k := ht i x v S'' H'' hx ((f2.trans f).trans fy) hI hv
      refine wSs_mk fun pins s Iv => thn (wSs_run k pins s Iv) fun fl s' q => ?_
      have up : ∀ σ4 H4, Nx0 τ S'' H'' (I (i + 1)) σ4 H4 → ∃ S4, Fp S2 H2 S4 H4 ∧ ∃ y, σ4 = τ y ∧ I (i + 1) := fun σ4 H4 ⟨S4, y, f4, e4, hI4⟩ => ⟨S4, (f.trans fy).trans f4, y, e4, hI4⟩
      cases fl with
      | next => obtain ⟨σ4, H4, I4, q4⟩ := q; exact ⟨σ4, H4, I4, up σ4 H4 q4⟩
      | cont => obtain ⟨σ4, H4, I4, q4⟩ := q; exact ⟨σ4, H4, I4, up σ4 H4 q4⟩
      | brk => exact q
      | ret u => exact q)
    (fun S2 H2 f2 σ' S' H' w => by
      obtain ⟨f, y, rfl, hI⟩ := w
      exact hd y S' H' (f2.trans f) hI) hfs
/-- the items pairs: for a, b in .. -/
theorem ws_for0P {γ : Type} [Rep γ] {xs : List (α × γ)} {x y : Str} {tx ty tt : Pos} {kk : Nat} {iter : Expr} (j l : Nat) (τ : Option V → Option V → L2.St) (I : Nat → Prop) {y0 y1 : Option V} (hp : PassesOwn (model X.prog X.w) X.A X.env X.xe) (hc : X.calm = true) (hN : X.N.Nodup)
    (hi : GI X (.Tuple [.Name x tx, .Name y ty] kk tt) iter σ S xs) (hS : Same S H) (hI : I 0)
    (ht : ∀ i x v w S' H', xs[i]? = some x → Fp S H S' H' → I i → Rep.rep S' v x.1 → Rep.rep S' w x.2 →
      wSs X body { D with nx := fun σ4 H4 => ∃ S4 y z, Fp S' H' S4 H4 ∧ σ4 = τ y z ∧ I (i + 1), ct := fun σ4 H4 => ∃ S4 y z, Fp S' H' S4 H4 ∧ σ4 = τ y z ∧ I (i + 1), bk := D.nx } (τ (some v) (some w)) H')
    (hd : ∀ y z S' H', Fp S H S' H' → I xs.length → D.nx (τ y z) H')
    (eσ : σ = τ y0 y1 := by rfl) (eτ : ∀ y z v w, ((τ y z).set j (some v)).set l (some w) = τ (some v) (some w) := by intro _ _ _ _; rfl) (hx : X.N[j]? = some x := by rfl) (hy : X.N[l]? = some y := by rfl)
    (hlx : Loc X.env.scope x := by first | exact Or.inl rfl | exact Or.inr rfl) (hly : Loc X.env.scope y := by first | exact Or.inl rfl | exact Or.inr rfl)
    (hfx : X.fn x = true ∨ X.env.scope.names.lookup x = some .local := by first | exact .inl rfl | exact .inr rfl) (hfy : X.fn y = true ∨ X.env.scope.names.lookup y = some .local := by first | exact .inl rfl | exact .inr rfl) (hfs : ∀ x, foldedSetIterable iter X.env x = pure x := by intro _; rfl) :
    wS X (.For (.Tuple [.Name x tx, .Name y ty] kk tt) iter body [] pos) D σ H :=
  ws_for hp hc hi (pg_tup hc (pgs_cons (pg_name hN hx hlx hfx) (pgs_cons (pg_name hN hy hly hfy) pgs_nil))) hS (fun S2 H2 i σ' S' H' => Fp S2 H2 S' H' ∧ ∃ y z, σ' = τ y z ∧ I i)
    (fun S2 H2 f2 => ⟨Fp.refl f2.sh, y0, y1, eσ, hI⟩)
    (fun S2 H2 f2 i σ' S' H' w => ⟨w.1.ss, w.1.sh⟩)
    (fun S2 H2 f2 i x v σ' S' H' S'' H'' hx w fy hv => by
      obtain ⟨f, y, z, rfl, hI⟩ := w
      obtain ⟨p, v1, v2, rfl, hp, h1, h2⟩ := hv
      refine ⟨p, _, rfl, SqT.of (fy.sh _ _ hp), rfl, v1, _, rfl, v2, _, rfl, rfl, ?_⟩
      show wSs X body _ (((τ y z).set j (some v1)).set l (some v2)) H''
      rw [eτ]
      have k := ht i x v1 v2 S'' H'' hx ((f2.trans f).trans fy) hI h1 h2
      refine wSs_mk fun pins s Iv => thn (wSs_run k pins s Iv) fun fl s' q => ?_
      cases fl with
      | next => obtain ⟨σ4, H4, I4, S4, y, z, f4, e4, hI4⟩ := q; exact ⟨σ4, H4, I4, S4, (f.trans fy).trans f4, y, z, e4, hI4⟩
      | cont => obtain ⟨σ4, H4, I4, S4, y, z, f4, e4, hI4⟩ := q; exact ⟨σ4, H4, I4, S4, (f.trans fy).trans f4, y, z, e4, hI4⟩
      | brk => exact q
      | ret u => exact q)
    (fun S2 H2 f2 σ' S' H' w => by
      obtain ⟨f, y, z, rfl, hI⟩ := w
      exact hd y z S' H' (f2.trans f) hI) hfs
end
section
variable {X : Cx} {σ : L2.St} {S H : Hp} {elt iter : Expr} {ifs : List Expr} {scope : Scope} {pos pos' tpos cpos : Pos} {α β γ : Type} [Rep α] [Rep β] [Rep γ] {xs : List α} {x y : Str} {D : Ends}
theorem ws_flt (i : Nat) (N : List Str) (sc : Scope) (j : Nat) (p : α → Bool) (hc : X.calm = true) (hN : X.N.Nodup) (hi : GI X (.Name x tpos) iter σ S xs) (hz : xs.length ≤ most)
    (hp : ∀ y v S1, Same S S1 → y ∈ xs → Rep.rep S1 v y → ∀ s H C cl fp, GTs (BX X scope s H C cl fp) ifs ((wipe σ [j]).set j (some v)) S1 (p y))
    (hf : ∀ y v S1, Same S S1 → y ∈ xs → p y = true → Rep.rep S1 v y → ∀ s H C cl fp, GE (BX X scope s H C cl fp) elt ((wipe σ [j]).set j (some v)) S1 (dt y))
    (hS : Same S H) (k : ∀ v S' H', Fp S H S' H' → Rep.rep S' v (xs.filter p) → D.nx (σ.set i (some v)) H')
    (hg : ∀ s H C cl fp, PG (BX X scope s H C cl fp) (.Name x tpos) (gName j) := by first | exact fun _ _ _ _ _ => pg_name (by assumption) rfl (Or.inl rfl) | exact fun _ _ _ _ _ => pg_name (by assumption) rfl (Or.inr rfl)) (hw : ∀ ws : List V, wipe ((wipe σ [j]).set j ws.head?) [j] = wipe σ [j] := by intro _; rfl)
    (hy : X.N[i]? = some y := by rfl) (hyl : X.env.scope.names.lookup y = some .local := by rfl) (hsw : swapsWith (.ListComp elt [⟨.Name x tpos, iter, ifs, 0⟩] scope cpos) (some (.Name y pos')) pos.line X.env = pure true := by exact sw_true rfl rfl rfl (by decide +kernel))
    (hs : ∀ x, foldedSetIterable iter X.env x = pure x := by intro _; rfl) (eN : X.N = N := by rfl) (eS : X.env.scope = sc := by rfl) (ok : blkC N sc scope [(x, j)] = true := by decide +kernel) :
    wS X (.Assign [.Name y pos'] (.ListComp elt [⟨.Name x tpos, iter, ifs, 0⟩] scope cpos) pos) D σ H :=
  ws_setLc (p := p) (f := fun y => y) i N sc [(x, j)] hc hN hi hz hg (tgt_name j) hw
    (fun y ws S1 a b c s H C cl fp => by obtain ⟨v, _, rfl, hv, rfl⟩ := c; exact hp y v S1 a b hv s H C cl fp)
    (fun y ws S1 a b b2 c s H C cl fp => by obtain ⟨v, _, rfl, hv, rfl⟩ := c; exact hf y v S1 a b b2 hv s H C cl fp) hS (fun v S' H' f h => k v S' H' f (by rw [List.map_id'] at h; exact h)) hy hyl hsw hs eN eS ok
theorem ws_map (i : Nat) (N : List Str) (sc : Scope) (j : Nat) (f : α → β) (hc : X.calm = true) (hN : X.N.Nodup) (hi : GI X (.Name x tpos) iter σ S xs) (hz : xs.length ≤ most)
    (hf : ∀ y v S1, Same S S1 → y ∈ xs → Rep.rep S1 v y → ∀ s H C cl fp, GE (BX X scope s H C cl fp) elt ((wipe σ [j]).set j (some v)) S1 (dt (f y)))
    (hS : Same S H) (k : ∀ v S' H', Fp S H S' H' → Rep.rep S' v (xs.map f) → D.nx (σ.set i (some v)) H')
    (hg : ∀ s H C cl fp, PG (BX X scope s H C cl fp) (.Name x tpos) (gName j) := by first | exact fun _ _ _ _ _ => pg_name (by assumption) rfl (Or.inl rfl) | exact fun _ _ _ _ _ => pg_name (by assumption) rfl (Or.inr rfl)) (hw : ∀ ws : List V, wipe ((wipe σ [j]).set j ws.head?) [j] = wipe σ [j] := by intro _; rfl)
    (hy : X.N[i]? = some y := by rfl) (hyl : X.env.scope.names.lookup y = some .local := by rfl) (hsw : swapsWith (.ListComp elt [⟨.Name x tpos, iter, [], 0⟩] scope cpos) (some (.Name y pos')) pos.line X.env = pure true := by exact sw_true rfl rfl rfl (by decide +kernel))
    (hs : ∀ x, foldedSetIterable iter X.env x = pure x := by intro _; rfl) (eN : X.N = N := by rfl) (eS : X.env.scope = sc := by rfl) (ok : blkC N sc scope [(x, j)] = true := by decide +kernel) :
    wS X (.Assign [.Name y pos'] (.ListComp elt [⟨.Name x tpos, iter, [], 0⟩] scope cpos) pos) D σ H :=
  ws_setLc (p := fun _ => true) (f := f) i N sc [(x, j)] hc hN hi hz hg (tgt_name j) hw
    (fun y ws S1 a b c s H C cl fp => gts_nil)
    (fun y ws S1 a b b2 c s H C cl fp => by obtain ⟨v, _, rfl, hv, rfl⟩ := c; exact hf y v S1 a b hv s H C cl fp) hS (fun v S' H' f h => k v S' H' f (by rw [List.filter_eq_self.mpr fun _ _ => rfl] at h; exact h)) hy hyl hsw hs eN eS ok
theorem ws_fm (i : Nat) (N : List Str) (sc : Scope) (j : Nat) (p : α → Bool) (f : α → β) (hc : X.calm = true) (hN : X.N.Nodup) (hi : GI X (.Name x tpos) iter σ S xs) (hz : xs.length ≤ most)
    (hp : ∀ y v S1, Same S S1 → y ∈ xs → Rep.rep S1 v y → ∀ s H C cl fp, GTs (BX X scope s H C cl fp) ifs ((wipe σ [j]).set j (some v)) S1 (p y))
    (hf : ∀ y v S1, Same S S1 → y ∈ xs → p y = true → Rep.rep S1 v y → ∀ s H C cl fp, GE (BX X scope s H C cl fp) elt ((wipe σ [j]).set j (some v)) S1 (dt (f y)))
    (hS : Same S H) (k : ∀ v S' H', Fp S H S' H' → Rep.rep S' v ((xs.filter p).map f) → D.nx (σ.set i (some v)) H')
    (hg : ∀ s H C cl fp, PG (BX X scope s H C cl fp) (.Name x tpos) (gName j) := by first | exact fun _ _ _ _ _ => pg_name (by assumption) rfl (Or.inl rfl) | exact fun _ _ _ _ _ => pg_name (by assumption) rfl (Or.inr rfl)) (hw : ∀ ws : List V, wipe ((wipe σ [j]).set j ws.head?) [j] = wipe σ [j] := by intro _; rfl)
    (hy : X.N[i]? = some y := by rfl) (hyl : X.env.scope.names.lookup y = some .local := by rfl) (hsw : swapsWith (.ListComp elt [⟨.Name x tpos, iter, ifs, 0⟩] scope cpos) (some (.Name y pos')) pos.line X.env = pure true := by exact sw_true rfl rfl rfl (by decide +kernel))
    (hs : ∀ x, foldedSetIterable iter X.env x = pure x := by intro _; rfl) (eN : X.N = N := by rfl) (eS : X.env.scope = sc := by rfl) (ok : blkC N sc scope [(x, j)] = true := by decide +kernel) :
    wS X (.Assign [.Name y pos'] (.ListComp elt [⟨.Name x tpos, iter, ifs, 0⟩] scope cpos) pos) D σ H :=
  ws_setLc (p := p) (f := f) i N sc [(x, j)] hc hN hi hz hg (tgt_name j) hw
    (fun y ws S1 a b c s H C cl fp => by obtain ⟨v, _, rfl, hv, rfl⟩ := c; exact hp y v S1 a b hv s H C cl fp)
    (fun y ws S1 a b b2 c s H C cl fp => by obtain ⟨v, _, rfl, hv, rfl⟩ := c; exact hf y v S1 a b b2 hv s H C cl fp) hS k hy hyl hsw hs eN eS ok
end
theorem numb_pre {α : Type} {xs : List α} {y : Int × α} (h : y ∈ numb xs) (hz : xs.length ≤ 40) : 0 ≤ y.1 ∧ y.1 ≤ 40 := by
  unfold numb at h
  obtain ⟨p, hp, rfl⟩ := List.mem_map.mp h
  have := List.snd_lt_of_mem_zipIdx hp
  simp only
  omega
theorem upto_pre {n : Nat} {y : Int} (h : y ∈ upto n) (hz : n ≤ 40) : 0 ≤ y ∧ y ≤ 40 := by
  unfold upto at h
  obtain ⟨p, hp, rfl⟩ := List.mem_map.mp h
  have := List.mem_range.mp hp
  omega
theorem take_snoc {α : Type} {xs : List α} {i : Nat} {x : α} (h : xs[i]? = some x) : xs.take (i + 1) = xs.take i ++ [x] := by rw [List.take_succ, h]; rfl
end Cp
namespace Cp
open PySem PySem.Spec PyProof.Rows L2
section
variable {P : Program} {w : World} {K : PySem.W.Frag} {mg : Str → Option Value} {base : Heap}
def m_doubled (n : Int) : Int := 2 ^ n.toNat
abbrev n_s_doubled : List Str := ["many", "found", "turn"]
theorem sc_doubled : FnScope n_s_doubled ["many"] (defScope s_doubled) := ⟨rfl, rfl, rfl, by decide +kernel, rfl, by decide +kernel, by decide +kernel⟩
abbrev P_doubled : Sp := Pr (Int) (fun a => [dt a]) (fun a => dt (m_doubled a)) (fun a => 0 ≤ a ∧ a ≤ 40)
theorem w_doubled (T : Top K mg) : Has P w K mg base "doubled" ["many"] 1 P_doubled := by
  obtain ⟨fd, F, g⟩ := T.fn 24 rfl rfl rfl
  refine has_of F g (F.bindsN fun _ _ _ _ _ _ us hl => match us, hl with | [_], _ => rfl) sc_doubled (fun _ => rfl) ?_
  have nd := sc_doubled.nd
  have b_range := T.free 68
  intro cdv A0 outer s H E hr many S vs D hS h hp q hn
  obtain ⟨v_many, _, rfl, h_many, rfl⟩ := h
  refine wss_cons (ws_set 1 ge_int hS (fun v1 S1 H1 f1 h1 => wss_cons (ws_for1 2 (fun b : Int => dt b) (fun vb y => [some v_many, some vb, y]) (fun i b => b = 2 ^ i) PassesOwn.never rfl nd
    (gi_range' b_range (ge_name 0 rfl (Rep.mono f1.ss h_many)) hp.1 (by show _ ≤ 4000; omega)) f1.sh h1 rfl ?turn ?fin)) nd)
  case turn =>
    intro i x v b vb S2 H2 hx f2 hb hI hv
    have hi : i < 41 := by
      have h1 := (List.getElem?_eq_some_iff.mp hx).1
      rw [upto_len] at h1
      omega
    have hm : CMul b 2 := by
      subst hI
      refine .inl ?_
      have h2 : (2 : Int) ^ i ≤ 2 ^ 41 := by
        have h3 : (2 : Nat) ^ i ≤ 2 ^ 41 := Nat.pow_le_pow_right (by decide) (by omega)
        exact_mod_cast h3
      have h4 : (0 : Int) < 2 ^ i := by
        have h3 : 0 < (2 : Nat) ^ i := Nat.pow_pos (by decide)
        exact_mod_cast h3
      have h5 : (2 : Int) ^ 41 < 2 ^ 64 := by decide
      constructor <;> omega
    exact wss_one (ws_set 1 (ge_mul (ge_name 1 rfl hb) ge_int hm) f2.sh (fun v3 S3 H3 f3 h3 => ⟨S3, v3, _, _, f3, rfl, h3, by rw [hI, Int.pow_succ]⟩) nd)
  case fin =>
    intro b vb y S2 H2 f2 hb hI
    refine wss_one (ws_ret (f1.trans f2) (ge_name 1 rfl hb) (fun v S' H' f h => q v S' H' f (cast_rep ?_ h)))
    rw [hI, upto_len]; rfl
def stepNames (acc lot : List Str) : List Str := acc ++ lot.filter fun y => !decide (y ∈ acc)
def m_names_in (lots : List (List Str)) : List Str := srt (lots.foldl stepNames [])
theorem stepNames_len (lots : List (List Str)) : ∀ acc : List Str, (lots.foldl stepNames acc).length ≤ acc.length + (lots.map List.length).sum := by
  induction lots with
  | nil => intro acc; simp
  | cons l lots ih =>
    intro acc
    have h1 := ih (stepNames acc l)
    have h2 : (stepNames acc l).length ≤ acc.length + l.length := by
      unfold stepNames; rw [List.length_append]; have := List.length_filter_le (fun y => !decide (y ∈ acc)) l; omega
    simp only [List.foldl_cons, List.map_cons, List.sum_cons]
    omega
abbrev n_s_names_in : List Str := ["lots", "found", "lot", "name"]
theorem sc_names_in : FnScope n_s_names_in ["lots"] (defScope s_names_in) := ⟨rfl, rfl, rfl, by decide +kernel, rfl, by decide +kernel, by decide +kernel⟩
abbrev P_names_in : Sp := Pr (List (List Str)) (fun a => [dt a]) (fun a => dt (m_names_in a)) (fun a => (a.map List.length).sum ≤ 1000)
theorem w_names_in (T : Top K mg) : Has P w K mg base "names_in" ["lots"] 1 P_names_in := by
  obtain ⟨fd, F, g⟩ := T.fn 25 rfl rfl rfl
  refine has_of F g (F.bindsN fun _ _ _ _ _ _ us hl => match us, hl with | [_], _ => rfl) sc_names_in (fun _ => rfl) ?_
  have nd := sc_names_in.nd
  have b_sorted := T.free 64
  intro cdv A0 outer s H E hr lots S vs D hS h hp q hn
  obtain ⟨v_lots, _, rfl, h_lots, rfl⟩ := h
  refine wss_cons (ws_set 1 ge_nil hS (fun v1 S1 H1 f1 h1 => wss_cons (ws_for1 2 (fun b : List Str => dt b) (fun vb y => [some v_lots, some vb, y, none]) (fun i b => b = (lots.take i).foldl stepNames []) PassesOwn.never rfl nd
    (gi_list (ge_name 0 rfl (Rep.mono f1.ss h_lots))) f1.sh h1 rfl ?turn ?fin)) nd)
  case turn =>
    intro i x v b vb S2 H2 hx f2 hb hI hv
    have hl : b.length + x.length ≤ 1000 := by
      have h1 := stepNames_len (lots.take i) []
      rw [← hI] at h1
      have h2 : ((lots.take (i + 1)).map List.length).sum ≤ (lots.map List.length).sum := by
        have e := congrArg (fun l : List (List Str) => (l.map List.length).sum) (List.take_append_drop (i + 1) lots)
        simp only [List.map_append, List.sum_append] at e
        omega
      rw [take_snoc hx] at h2
      simp only [List.map_append, List.sum_append, List.map_cons, List.map_nil, List.sum_cons, List.sum_nil] at h2
      have h3 : (lots.map List.length).sum ≤ 1000 := hp
      simp only [List.length_nil] at h1
      omega
    exact wss_one (ws_set 1 (ge_cat (ge_name 1 rfl hb) (ge_flt n_s_names_in (defScope s_names_in) 3 (fun (y11 : Str) => (!decide (y11 ∈ b))) rfl nd (gi_list (ge_name 2 rfl hv)) (rep_small hv) (fun y11 v11 S11 hs11 hm11 hv11 _ _ _ _ _ => gts_one (gt_ni hr (ge_name 3 rfl hv11) (ge_name 1 rfl (Rep.mono hs11 hb)))) (fun y11 v11 S11 hs11 hm11 hp11 hv11 _ _ _ _ _ => (ge_name 3 rfl hv11))) (by show _ ≤ 4000; have := List.length_filter_le (fun y => !decide (y ∈ b)) x; omega)) f2.sh (fun v3 S3 H3 f3 h3 => ⟨S3, v3, _, _, f3, rfl, h3, by rw [take_snoc hx, List.foldl_append, hI]; rfl⟩) nd)
  case fin =>
    intro b vb y S2 H2 f2 hb hI
    refine wss_one (ws_ret (f1.trans f2) (ge_sorted hr b_sorted (ge_name 1 rfl hb)) (fun v S' H' f h => q v S' H' f (cast_rep ?_ h)))
    rw [hI, List.take_length]; rfl
def m_meets_all (mark : Int) (marks : List Int) : Bool := marks.all fun one => Builtin.bitAnd one mark != 0
abbrev n_s_meets_all : List Str := ["mark", "marks", "one"]
theorem sc_meets_all : FnScope n_s_meets_all ["mark", "marks"] (defScope s_meets_all) := ⟨rfl, rfl, rfl, by decide +kernel, rfl, by decide +kernel, by decide +kernel⟩
abbrev P_meets_all : Sp := Pr (Int × List Int) (fun a => [dt a.1, dt a.2]) (fun a => dt (m_meets_all a.1 a.2)) (fun _ => True)
theorem w_meets_all (T : Top K mg) : Has P w K mg base "meets_all" ["mark", "marks"] 1 P_meets_all := by
  obtain ⟨fd, F, g⟩ := T.fn 27 rfl rfl rfl
  refine has_of F g (F.bindsN fun _ _ _ _ _ _ us hl => match us, hl with | [_, _], _ => rfl) sc_meets_all (fun _ => rfl) ?_
  have nd := sc_meets_all.nd
  intro cdv A0 outer s H E hr ⟨mark, marks⟩ S vs D hS h hp q hn
  obtain ⟨v_mark, _, rfl, h_mark, v_marks, _, rfl, h_marks, rfl⟩ := h
  refine wss_cons (ws_for0 2 (fun y => [some v_mark, some v_marks, y]) (fun i => ∀ x ∈ marks.take i, (Builtin.bitAnd x mark != 0) = true) PassesOwn.never rfl nd
    (gi_list (ge_name 1 rfl h_marks)) hS (by simp) ?turn ?fin)
  case turn =>
    intro i x v S2 H2 hx f2 hI hv
    refine wss_one (ws_if (gt_not (gt_int (ge_band (ge_name 2 rfl hv) (ge_name 0 rfl (Rep.mono f2.ss h_mark))))) f2.sh (fun hk S3 H3 f3 => wss_one (ws_ret (f2.trans f3) ge_bool (fun v S' H' f h => q v S' H' f (cast_rep ?_ h)))) (fun hk S3 H3 f3 => wss_nil ⟨S3, _, f3, rfl, fun z hz => ?_⟩))
    · symm
      have hm : x ∈ marks := List.mem_of_getElem? hx
      cases e : m_meets_all mark marks with
      | false => rfl
      | true =>
        have h1 := List.all_eq_true.mp e x hm
        rw [h1] at hk
        cases hk
    · rw [take_snoc hx] at hz
      rcases List.mem_append.mp hz with z1 | z1
      · exact hI z z1
      · rw [List.mem_singleton.mp z1]
        cases e : (Builtin.bitAnd x mark != 0) with
        | true => rfl
        | false => rw [e] at hk; cases hk
  case fin =>
    intro y S2 H2 f2 hI
    rw [List.take_length] at hI
    exact wss_one (ws_ret f2 ge_bool (fun v S' H' f h => q v S' H' f (cast_rep (List.all_eq_true.mpr hI).symm h)))
theorem dbl_nn (n : Int) : 0 ≤ m_doubled n := by
  have h : 0 < (2 : Nat) ^ n.toNat := Nat.pow_pos (by decide)
  unfold m_doubled
  have h2 : (0 : Int) < 2 ^ n.toNat := by exact_mod_cast h
  omega
theorem dbl_small {n : Nat} (h : n ≤ 10) : (m_doubled (n : Int)).toNat ≤ most := by
  unfold m_doubled
  rw [Int.toNat_natCast]
  have h3 : (2 : Nat) ^ n ≤ 2 ^ 10 := Nat.pow_le_pow_right (by decide) h
  have h4 : ((2 : Int) ^ n).toNat = 2 ^ n := by
    have : ((2 : Int) ^ n) = ((2 ^ n : Nat) : Int) := by simp
    rw [this, Int.toNat_natCast]
  rw [h4]
  exact Nat.le_trans h3 (by decide)
def m_mark_of (names : List Str) (lot : List Str) : Int := (List.sum (List.map (fun (y12 : (Int × Str)) => (m_doubled y12.1)) (List.filter (fun (y12 : (Int × Str)) => (decide (y12.2 ∈ lot))) (numb names))))
abbrev n_s_mark_of : List Str := ["names", "lot", "at", "name"]
theorem sc_mark_of : FnScope n_s_mark_of ["names", "lot"] (defScope s_mark_of) := ⟨rfl, rfl, rfl, by decide +kernel, rfl, by decide +kernel, by decide +kernel⟩
abbrev P_mark_of : Sp := Pr (List Str × List Str) (fun a => [dt a.1, dt a.2]) (fun a => dt (m_mark_of a.1 a.2)) (fun a => a.1.length ≤ 40)
theorem w_mark_of (T : Top K mg) (c_doubled : Has P w K mg base "doubled" ["many"] 1 P_doubled) : Has P w K mg base "mark_of" ["names", "lot"] 2 P_mark_of := by
  obtain ⟨fd, F, g⟩ := T.fn 26 rfl rfl rfl
  refine has_of F g (F.bindsN fun _ _ _ _ _ _ us hl => match us, hl with | [_, _], _ => rfl) sc_mark_of (fun _ => rfl) ?_
  have nd := sc_mark_of.nd
  have b_enumerate := T.free 67
  have b_sum := T.free 69
  intro cdv A0 outer s H E hr ⟨names, lot⟩ S vs D hS h hp q hn
  obtain ⟨v_names, _, rfl, h_names, v_lot, _, rfl, h_lot, rfl⟩ := h
  exact wss_one (ws_ret (Fp.refl hS) (ge_sum b_sum (ge_fmP n_s_mark_of (defScope s_mark_of) 2 3 (fun (y12 : (Int × Str)) => (decide (y12.2 ∈ lot))) (fun (y12 : (Int × Str)) => (m_doubled y12.1)) rfl nd (gi_enum b_enumerate (ge_name 0 rfl h_names)) (by rw [numb_len]; exact (rep_small h_names)) (fun y12 va12 vb12 S12 hs12 hm12 ha12 hb12 _ _ _ _ _ => gts_one (gt_in hr (ge_name 3 rfl hb12) (ge_name 1 rfl (Rep.mono hs12 h_lot)))) (fun y12 va12 vb12 S12 hs12 hm12 hp12 ha12 hb12 _ _ _ _ _ => (ge_call (dt (m_doubled y12.1)) c_doubled hr y12.1 (gA_cons (ge_name 2 rfl ha12) gA_nil) (numb_pre hm12 hp))))) q)
def m_is_least_mark (mark : Int) (marks : List Int) (many : Int) : Bool := (cond (!(m_meets_all mark marks)) false (decide ((List.filter (fun (y14 : Int) => (((Builtin.bitAnd mark (m_doubled y14)) != 0) && (m_meets_all (mark - (m_doubled y14)) marks))) (upto (Int.toNat many))) = [])))
abbrev n_s_is_least_mark : List Str := ["mark", "marks", "many", "at"]
theorem sc_is_least_mark : FnScope n_s_is_least_mark ["mark", "marks", "many"] (defScope s_is_least_mark) := ⟨rfl, rfl, rfl, by decide +kernel, rfl, by decide +kernel, by decide +kernel⟩
abbrev P_is_least_mark : Sp := Pr (Int × List Int × Int) (fun a => [dt a.1, dt a.2.1, dt a.2.2]) (fun a => dt (m_is_least_mark a.1 a.2.1 a.2.2)) (fun a => 0 ≤ a.2.2 ∧ a.2.2 ≤ 40)
theorem w_is_least_mark (T : Top K mg) (c_doubled : Has P w K mg base "doubled" ["many"] 1 P_doubled) (c_meets_all : Has P w K mg base "meets_all" ["mark", "marks"] 1 P_meets_all) : Has P w K mg base "is_least_mark" ["mark", "marks", "many"] 2 P_is_least_mark := by
  obtain ⟨fd, F, g⟩ := T.fn 28 rfl rfl rfl
  refine has_of F g (F.bindsN fun _ _ _ _ _ _ us hl => match us, hl with | [_, _, _], _ => rfl) sc_is_least_mark (fun _ => rfl) ?_
  have nd := sc_is_least_mark.nd
  have b_range := T.free 68
  intro cdv A0 outer s H E hr ⟨mark, marks, many⟩ S vs D hS h hp q hn
  obtain ⟨v_mark, _, rfl, h_mark, v_marks, _, rfl, h_marks, v_many, _, rfl, h_many, rfl⟩ := h
  exact wss_cons (ws_if (gt_not (gt_val (ge_call (dt (m_meets_all mark marks)) c_meets_all hr (mark, marks) (gA_cons (ge_name 0 rfl h_mark) (gA_cons (ge_name 1 rfl h_marks) gA_nil)) trivial))) (Fp.refl hS).sh (fun hk13 S13 H13 f13 => wss_one (ws_ret ((Fp.refl hS).trans f13) ge_bool (fun v S' H' f h => q v S' H' f (cast_rep (cond_t hk13) h)))) (fun hk13 S13 H13 f13 => wss_nil (wss_one (ws_ret ((Fp.refl hS).trans f13) (ge_eq hr (ge_flt n_s_is_least_mark (defScope s_is_least_mark) 3 (fun (y14 : Int) => (((Builtin.bitAnd mark (m_doubled y14)) != 0) && (m_meets_all (mark - (m_doubled y14)) marks))) rfl nd (gi_range' b_range (ge_name 2 rfl (Rep.mono f13.ss h_many)) hp.1 (by show _ ≤ 4000; have := hp.2; omega)) (by rw [upto_len]; exact (by have := hp.2; show _ ≤ 4000; omega)) (fun y14 v14 S14 hs14 hm14 hv14 _ _ _ _ _ => gts_one (gt_w (gw_and (gt_int (ge_band (ge_name 0 rfl (Rep.mono hs14 (Rep.mono f13.ss h_mark))) (ge_call (dt (m_doubled y14)) c_doubled hr y14 (gA_cons (ge_name 3 rfl hv14) gA_nil) (upto_pre hm14 (by have := hp.2; omega))))) fun _ => (gw_and1 (gt_val (ge_call (dt (m_meets_all (mark - (m_doubled y14)) marks)) c_meets_all hr ((mark - (m_doubled y14)), marks) (gA_cons (ge_sub (ge_name 0 rfl (Rep.mono hs14 (Rep.mono f13.ss h_mark))) (ge_call (dt (m_doubled y14)) c_doubled hr y14 (gA_cons (ge_name 3 rfl hv14) gA_nil) (upto_pre hm14 (by have := hp.2; omega)))) (gA_cons (ge_name 1 rfl (Rep.mono hs14 (Rep.mono f13.ss h_marks))) gA_nil)) trivial)))))) (fun y14 v14 S14 hs14 hm14 hp14 hv14 _ _ _ _ _ => (ge_name 3 rfl hv14))) ge_nil) (fun v S' H' f h => q v S' H' f (cast_rep (cond_f hk13 rfl) h))))))
def m_meeting (lots : List (List Str)) : List (List Str) := (srt (List.map (fun (y20 : Int) => (List.map (fun (y21 : (Int × Str)) => y21.2) (List.filter (fun (y21 : (Int × Str)) => ((Builtin.bitAnd y20 (m_doubled y21.1)) != 0)) (numb (m_names_in lots))))) (List.filter (fun (y19 : Int) => (m_is_least_mark y19 (List.map (fun (y17 : List Str) => (m_mark_of (m_names_in lots) y17)) lots) ((m_names_in lots).length : Int))) (upto (Int.toNat (m_doubled ((m_names_in lots).length : Int)))))))
abbrev n_s_meeting : List Str := ["lots", "names", "marks", "found", "lot", "mark", "at", "name"]
theorem sc_meeting : FnScope n_s_meeting ["lots"] (defScope s_meeting) := ⟨rfl, rfl, rfl, by decide +kernel, rfl, by decide +kernel, by decide +kernel⟩
abbrev P_meeting : Sp := Pr (List (List Str)) (fun a => [dt a]) (fun a => dt (m_meeting a)) (fun a => (m_names_in a).length ≤ 10 ∧ (a.map List.length).sum ≤ 1000)
theorem w_meeting (T : Top K mg) (c_doubled : Has P w K mg base "doubled" ["many"] 1 P_doubled) (c_names_in : Has P w K mg base "names_in" ["lots"] 1 P_names_in) (c_mark_of : Has P w K mg base "mark_of" ["names", "lot"] 2 P_mark_of) (c_is_least_mark : Has P w K mg base "is_least_mark" ["mark", "marks", "many"] 2 P_is_least_mark) : Has P w K mg base "meeting" ["lots"] 3 P_meeting := by
  obtain ⟨fd, F, g⟩ := T.fn 29 rfl rfl rfl
  refine has_of F g (F.bindsN fun _ _ _ _ _ _ us hl => match us, hl with | [_], _ => rfl) sc_meeting (fun _ => rfl) ?_
  have nd := sc_meeting.nd
  have b_enumerate := T.free 67
  have b_len := T.free 61
  have b_range := T.free 68
  have b_sorted := T.free 64
  intro cdv A0 outer s H E hr lots S vs D hS h hp q hn
  obtain ⟨v_lots, _, rfl, h_lots, rfl⟩ := h
  exact wss_cons (ws_set 1 (ge_call (dt (m_names_in lots)) c_names_in hr lots (gA_cons (ge_name 0 rfl h_lots) gA_nil) hp.2) (Fp.refl hS).sh (fun v15 S15 H15 f15 h15 => wss_cons (ws_set 2 (ge_map n_s_meeting (defScope s_meeting) 4 (fun (y17 : List Str) => (m_mark_of (m_names_in lots) y17)) rfl nd (gi_list (ge_name 0 rfl (Rep.mono f15.ss h_lots))) (rep_small (Rep.mono f15.ss h_lots)) (fun y17 v17 S17 hs17 hm17 hv17 _ _ _ _ _ => (ge_call (dt (m_mark_of (m_names_in lots) y17)) c_mark_of hr ((m_names_in lots), y17) (gA_cons (ge_name 1 rfl (Rep.mono hs17 h15)) (gA_cons (ge_name 4 rfl hv17) gA_nil)) (Nat.le_trans hp.1 (by decide))))) ((Fp.refl hS).trans f15).sh (fun v16 S16 H16 f16 h16 => wss_cons (ws_flt 3 n_s_meeting (defScope s_meeting) 5 (fun (y19 : Int) => (m_is_least_mark y19 (List.map (fun (y17 : List Str) => (m_mark_of (m_names_in lots) y17)) lots) ((m_names_in lots).length : Int))) rfl nd (gi_range' b_range (ge_call (dt (m_doubled ((m_names_in lots).length : Int))) c_doubled hr ((m_names_in lots).length : Int) (gA_cons (ge_len b_len (ge_name 1 rfl (Rep.mono f16.ss h15))) gA_nil) ⟨Int.natCast_nonneg _, Int.ofNat_le.mpr (Nat.le_trans hp.1 (by decide))⟩) (dbl_nn _) (dbl_small hp.1)) (by rw [upto_len]; exact (dbl_small hp.1)) (fun y19 v19 S19 hs19 hm19 hv19 _ _ _ _ _ => gts_one (gt_val (ge_call (dt (m_is_least_mark y19 (List.map (fun (y17 : List Str) => (m_mark_of (m_names_in lots) y17)) lots) ((m_names_in lots).length : Int))) c_is_least_mark hr (y19, (List.map (fun (y17 : List Str) => (m_mark_of (m_names_in lots) y17)) lots), ((m_names_in lots).length : Int)) (gA_cons (ge_name 5 rfl hv19) (gA_cons (ge_name 2 rfl (Rep.mono hs19 h16)) (gA_cons (ge_len b_len (ge_name 1 rfl (Rep.mono hs19 (Rep.mono f16.ss h15)))) gA_nil))) ⟨Int.natCast_nonneg _, Int.ofNat_le.mpr (Nat.le_trans hp.1 (by decide))⟩))) (fun y19 v19 S19 hs19 hm19 hp19 hv19 _ _ _ _ _ => (ge_name 5 rfl hv19)) (((Fp.refl hS).trans f15).trans f16).sh (fun v18 S18 H18 f18 h18 => wss_one (ws_ret ((((Fp.refl hS).trans f15).trans f16).trans f18) (ge_sorted hr b_sorted (ge_map n_s_meeting (defScope s_meeting) 5 (fun (y20 : Int) => (List.map (fun (y21 : (Int × Str)) => y21.2) (List.filter (fun (y21 : (Int × Str)) => ((Builtin.bitAnd y20 (m_doubled y21.1)) != 0)) (numb (m_names_in lots))))) rfl nd (gi_list (ge_name 3 rfl h18)) (rep_small h18) (fun y20 v20 S20 hs20 hm20 hv20 _ _ _ _ _ => (ge_fmP n_s_meeting (relS _ (defScope s_meeting)) 6 7 (fun (y21 : (Int × Str)) => ((Builtin.bitAnd y20 (m_doubled y21.1)) != 0)) (fun (y21 : (Int × Str)) => y21.2) rfl nd (gi_enum b_enumerate (ge_name 1 rfl (Rep.mono hs20 (Rep.mono f18.ss (Rep.mono f16.ss h15))))) (by rw [numb_len]; exact (rep_small (Rep.mono hs20 (Rep.mono f18.ss (Rep.mono f16.ss h15))))) (fun y21 va21 vb21 S21 hs21 hm21 ha21 hb21 _ _ _ _ _ => gts_one (gt_int (ge_band (ge_name 5 rfl (Rep.mono hs21 hv20)) (ge_call (dt (m_doubled y21.1)) c_doubled hr y21.1 (gA_cons (ge_name 6 rfl ha21) gA_nil) (numb_pre hm21 (Nat.le_trans hp.1 (by decide))))))) (fun y21 va21 vb21 S21 hs21 hm21 hp21 ha21 hb21 _ _ _ _ _ => (ge_name 7 rfl hb21)))))) q)))) nd)) nd)
theorem lm_check {lots : List (List Str)} (h : ∀ l ∈ lots, m_is_ascending l = true) (hk : ((!true) || (!decide ((List.filter (fun (y : List Str) => (!(m_is_ascending y))) lots) = []))) = true) : False := by
  have e : List.filter (fun (y : List Str) => (!(m_is_ascending y))) lots = [] := by
    refine List.filter_eq_nil_iff.mpr fun l hl => ?_
    rw [h l hl]; decide
  rw [e] at hk
  simp at hk
def m_least_meeting (lots : List (List Str)) : List (List Str) := (m_meeting lots)
abbrev n_s_least_meeting : List Str := ["lots", "lot"]
theorem sc_least_meeting : FnScope n_s_least_meeting ["lots"] (defScope s_least_meeting) := ⟨rfl, rfl, rfl, by decide +kernel, rfl, by decide +kernel, by decide +kernel⟩
abbrev P_least_meeting : Sp := Pr (List (List Str)) (fun a => [dt a]) (fun a => dt (m_least_meeting a)) (fun a => ((m_names_in a).length ≤ 10 ∧ (a.map List.length).sum ≤ 1000) ∧ ∀ l ∈ a, m_is_ascending l = true)
theorem w_least_meeting (T : Top K mg) (c_is_ascending : Has P w K mg base "is_ascending" ["value"] 3 P_is_ascending) (c_meeting : Has P w K mg base "meeting" ["lots"] 3 P_meeting) : Has P w K mg base "least_meeting" ["lots"] 4 P_least_meeting := by
  obtain ⟨fd, F, g⟩ := T.fn 30 rfl rfl rfl
  refine has_of F g (F.bindsN fun _ _ _ _ _ _ us hl => match us, hl with | [_], _ => rfl) sc_least_meeting (fun _ => rfl) ?_
  have nd := sc_least_meeting.nd
  have b_isinstance := T.free 62
  have b_list := T.free 63
  intro cdv A0 outer s H E hr lots S vs D hS h hp q hn
  obtain ⟨v_lots, _, rfl, h_lots, rfl⟩ := h
  exact wss_cons (ws_if (gt_w (gw_or (gt_not (gt_val (ge_isi_list b_isinstance b_list (ge_name 0 rfl h_lots)))) fun _ => (gw_or1 (gt_ne hr (ge_flt n_s_least_meeting (defScope s_least_meeting) 1 (fun (y22 : List Str) => (!(m_is_ascending y22))) rfl nd (gi_list (ge_name 0 rfl h_lots)) (rep_small h_lots) (fun y22 v22 S22 hs22 hm22 hv22 _ _ _ _ _ => gts_one (gt_not (gt_val (ge_call (dt (m_is_ascending y22)) c_is_ascending hr y22 (gA_cons (ge_name 1 rfl hv22) gA_nil) trivial)))) (fun y22 v22 S22 hs22 hm22 hp22 hv22 _ _ _ _ _ => (ge_name 1 rfl hv22))) ge_nil)))) (Fp.refl hS).sh (fun hk23 S23 H23 f23 => (show False from lm_check hp.2 hk23).elim) (fun hk23 S23 H23 f23 => wss_nil (wss_one (ws_ret ((Fp.refl hS).trans f23) (ge_call (dt (m_meeting lots)) c_meeting hr lots (gA_cons (ge_name 0 rfl (Rep.mono f23.ss h_lots)) gA_nil) hp.1) q))))
end
end Cp
namespace Cp
open PySem PySem.Spec PyProof.Rows L2
/-! ### data grow while some places change -/
structure Fm (M : Addr → Prop) (S H S' H' : Hp) : Prop where
  ss : Same S S'
  sh : Same S' H'
  hh : ∀ a o, ¬ M a → H a = some o → H' a = some o
  fr : ∀ a, S a = none → H a ≠ none → S' a = none
  al : ∀ a, H a ≠ none → H' a ≠ none
abbrev NoM : Addr → Prop := fun _ => False
section
variable {M : Addr → Prop} {S H S' H' S1 H1 S2 H2 : Hp}
theorem Same.al (h : Same H H') : ∀ a, H a ≠ none → H' a ≠ none := fun a n z => n (Same.free h z)
theorem Fp.fm (f : Fp S H S' H') : Fm M S H S' H' := ⟨f.ss, f.sh, fun a o _ e => f.hh a o e, f.fr, Same.al f.hh⟩
theorem Fm.fp (f : Fm NoM S H S' H') : Fp S H S' H' := ⟨f.ss, f.sh, fun a o e => f.hh a o (fun z => z) e, f.fr⟩
theorem Fm.refl (h : Same S H) : Fm M S H S H := (Fp.refl h).fm
theorem Fm.trans (a : Fm M S H S1 H1) (b : Fm M S1 H1 S2 H2) : Fm M S H S2 H2 :=
  ⟨a.ss.trans b.ss, b.sh, fun x o m e => b.hh x o m (a.hh x o m e), fun x e n => b.fr x (a.fr x e n) (a.al x n), fun x n => b.al x (a.al x n)⟩
theorem Fm.tp (a : Fm M S H S1 H1) (b : Fp S1 H1 S2 H2) : Fm M S H S2 H2 := a.trans b.fm
theorem Fm.mutD {D : Addr} {o : HO} (f : Fm M S H S' H') (h : H D = none ∨ M D) (n : S' D = none) : Fm M S H S' (upd H' D o) := by
  refine ⟨f.ss, fun a u e => ?_, fun a u m e => ?_, f.fr, fun a n => ?_⟩
  · rw [upd_ne (ne_of_none e n)]; exact f.sh a u e
  · have hne : a ≠ D := by
      rintro rfl
      rcases h with h | h
      · rw [h] at e; cases e
      · exact m h
    rw [upd_ne hne]; exact f.hh a u m e
  · by_cases c : a = D
    · subst c; rw [upd_same]; exact fun z => nomatch z
    · rw [upd_ne c]; exact f.al a n
theorem Fm.keepD {D : Addr} {o : HO} (f : Fm M S H S' H') (h : H D = none) (n : S' D = none) (e : H' D = some o) : Fm M S H (upd S' D o) H' := by
  refine ⟨fun a u q => ?_, fun a u q => ?_, f.hh, fun a q z => ?_, f.al⟩
  · have q' := f.ss a u q
    rw [upd_ne (ne_of_none q' n)]; exact q'
  · by_cases c : a = D
    · subst c; rw [upd_same] at q; rw [e]; exact q
    · rw [upd_ne c] at q; exact f.sh a u q
  · by_cases c : a = D
    · subst c; exact absurd h z
    · rw [upd_ne c]; exact f.fr a q z
theorem reps_keepD {α : Type} [Rep α] {D : Addr} {o : HO} {vs : List V} {xs : List α} (n : S' D = none) (r : Reps S' vs xs) : Reps (upd S' D o) vs xs :=
  r.mono fun a u e => by rw [upd_ne (ne_of_none e n)]; exact e
/-- an own list, done, becomes data -/
theorem own_done {α : Type} [Rep α] {l : Addr} {acc : List V} {ys : List α} (n : S' l = none) (r : Reps S' acc ys) (hz : ys.length ≤ most) : Rep.rep (upd S' l (.lst acc)) (.ref l) ys := ⟨l, acc, rfl, upd_same, hz, reps_keepD n r⟩
end
/-- an own list: not among the data, of these items -/
structure Own {γ : Type} [Rep γ] (S H : Hp) (l : Addr) (ys : List γ) : Prop where
  no : S l = none
  ex : ∃ acc, H l = some (.lst acc) ∧ Reps S acc ys
section
variable {X : Cx} {σ : L2.St} {S H S0 H0 S' H' : Hp} {M : Addr → Prop} {e : Expr} {body : List Stmt} {pos tpos : Pos} {D : Ends} {α γ : Type} [Rep α] [Rep γ] {l : Addr} {ys : List γ} {r : Rl}
theorem Own.go (o : Own S H l ys) (f : Fp S H S' H') : Own S' H' l ys := by
  obtain ⟨acc, h1, h2⟩ := o.ex
  exact ⟨f.fr l o.no (by rw [h1]; exact fun z => nomatch z), acc, f.hh _ _ h1, h2.mono f.ss⟩
theorem Own.gom (o : Own S H l ys) (f : Fm M S H S' H') (hm : ¬ M l) : Own S' H' l ys := by
  obtain ⟨acc, h1, h2⟩ := o.ex
  exact ⟨f.fr l o.no (by rw [h1]; exact fun z => nomatch z), acc, f.hh _ _ hm h1, h2.mono f.ss⟩
/-- xs = [] -/
theorem ws_own {i : Nat} {x : Str} {lp p2 : Pos} (hN : X.N.Nodup) (hS : Same S H) (k : ∀ l H', H l = none → Fp S H S H' → H' = upd H l (.lst []) → Own S H' l ([] : List γ) → D.nx (σ.set i (some (.ref l))) H') (hi : X.N[i]? = some x := by rfl) (hx : Loc X.env.scope x := by first | exact Or.inl rfl | exact Or.inr rfl)
    (hs : swapsWith (.List [] lp) (some (.Name x p2)) pos.line X.env = pure false := by rfl) (hf : X.fn x = true ∨ X.env.scope.names.lookup x = some .local := by first | exact .inl rfl | exact .inr rfl) : wS X (.Assign [.Name x p2] (.List [] lp) pos) D σ H :=
  of_ps (ps_set hN hi hx (pe_lst pa_nil) hs hf) ⟨Nat.zero_le _, fun l hl => k l _ hl (Fp.newH hS hl) rfl ⟨same_none hS hl, [], upd_same, .nil⟩⟩
/-- xs.append(e) -/
theorem ws_ownapp {y : γ} {o : Expr} {ap cp : Pos} (w : Own S H l ys) (ho : GE X o σ S (rRef l)) (g : GE X e σ S (dt y)) (hS : Same S H) (hz : ys.length < most)
    (k : ∀ S' H' H'', Fp S H S' H' → (∃ o, H'' = upd H' l o) → Own S' H'' l (ys ++ [y]) → D.nx σ H'')
    (hbase : attributeBase o "append" X.env (eval o X.env) = eval o X.env := by rfl)
    (hfew : ((backTo cp (starEach [e] X.env)).all (fun x => !x.1) && (backToKw cp (keywordEach [] X.env)).all (fun x => x.1.isSome)
      && decide ([e].length + ([] : List Keyword).length + (if ([] : List Keyword).isEmpty then 0 else 1) < 30)) = true := by rfl)
    (hline : (ap.endLine == cp.line) = true := by rfl) (hs : starEach [e] X.env = (false, eval e X.env) :: starEach [] X.env := by rfl) (hplain : (backTo cp (starEach [] X.env)).any (·.1) = false := by rfl)
    (hsw : swapsWith (.Call (.Attribute o "append" ap) [e] [] cp) none pos.line X.env = pure false := by rfl) : wS X (.Expr (.Call (.Attribute o "append" ap) [e] [] cp) pos) D σ H := by
  obtain ⟨acc, h1, h2⟩ := w.ex
  refine ws_app h1 w.no ho g hS (by rw [h2.len]; exact Nat.lt_trans hz (by decide)) (fun v S' H' f n e1 hv => ?_) hbase hfew hline hs hplain hsw
  exact k S' H' _ f ⟨_, rfl⟩ ⟨n, acc ++ [v], upd_same, (h2.mono f.ss).snoc hv⟩
/-- xs = xs + e, xs an own list -/
theorem ws_owncat (i : Nat) {zs : List γ} {x : Str} {p1 p2 bp : Pos} (w : Own S H l ys) (hσ : σ[i]? = some (some (.ref l))) (g : GE X e σ S (dt zs)) (hS : Same S H) (hz : ys.length + zs.length ≤ most) (hN : X.N.Nodup)
    (k : ∀ l' S' H', Fp S H S' H' → H l' = none → Own S' H' l' (ys ++ zs) → D.nx (σ.set i (some (.ref l'))) H')
    (hi : X.N[i]? = some x := by rfl) (hx : Loc X.env.scope x := by first | exact Or.inl rfl | exact Or.inr rfl) (hv : Vis X.env.scope x := by first | exact Or.inl rfl | exact Or.inr (Or.inl rfl) | exact Or.inr (Or.inr rfl))
    (hd : (x == ("__debug__" : Str)) = false := by decide) (hcd : (x == ("__classdict__" : Str)) = false := by decide)
    (hs : swapsWith (.BinOp (.Name x p1) .Add e bp) (some (.Name x p2)) pos.line X.env = pure false := by rfl) (hf : X.fn x = true ∨ X.env.scope.names.lookup x = some .local := by first | exact .inl rfl | exact .inr rfl) :
    wS X (.Assign [.Name x p2] (.BinOp (.Name x p1) .Add e bp) pos) D σ H := by
  obtain ⟨acc, e1, e2⟩ := w.ex
  refine of_ps (ps_set hN hi hx (pe_op op_cat (pe_var hi hv hd hcd) wE.pe) hs hf) ⟨.ref l, hσ, g S H (Same.refl _) hS _ fun v S2 H2 f2 hv => ?_⟩
  obtain ⟨p, vs, rfl, hp, hl, hr⟩ := hv
  refine ⟨l, p, acc, vs, rfl, rfl, f2.hh _ _ e1, f2.sh _ _ hp, small_line (by rw [e2.len, hr.len]; exact hz), fun l' hn => ?_⟩
  have nS : S2 l' = none := same_none f2.sh hn
  refine k l' S2 _ (f2.mutD (same_none f2.hh hn) nS) (same_none f2.hh hn) ⟨nS, acc ++ vs, upd_same, (e2.mono f2.ss).append hr⟩
/-- a for that fills an own list -/
theorem ws_forA {xs : List α} {x : Str} {iter : Expr} (j : Nat) (l : Addr) (τ : Option V → L2.St) (I : Nat → List γ → Prop) {y0 : Option V} {ys0 : List γ} (hp : PassesOwn (model X.prog X.w) X.A X.env X.xe) (hc : X.calm = true) (hN : X.N.Nodup) (hM : ¬ M l)
    (hi : GI X (.Name x tpos) iter σ S xs) (hl0 : H0 l = none) (f0 : Fm M S0 H0 S H) (w0 : Own S H l ys0) (hI : I 0 ys0)
    (ht : ∀ i x v ys S' H', xs[i]? = some x → Same S S' → Fm M S0 H0 S' H' → Own S' H' l ys → I i ys → Rep.rep S' v x →
      wSs X body { D with nx := fun σ4 H4 => ∃ S4 y ys', Same S' S4 ∧ Fm M S0 H0 S4 H4 ∧ Own S4 H4 l ys' ∧ σ4 = τ y ∧ I (i + 1) ys', ct := fun σ4 H4 => ∃ S4 y ys', Same S' S4 ∧ Fm M S0 H0 S4 H4 ∧ Own S4 H4 l ys' ∧ σ4 = τ y ∧ I (i + 1) ys', bk := D.nx } (τ (some v)) H')
    (hd : ∀ y ys S' H', Same S S' → Fm M S0 H0 S' H' → Own S' H' l ys → I xs.length ys → D.nx (τ y) H')
    (eσ : σ = τ y0 := by rfl) (eτ : ∀ y v, (τ y).set j (some v) = τ (some v) := by intro _ _; rfl) (hx : X.N[j]? = some x := by rfl) (hl : Loc X.env.scope x := by first | exact Or.inl rfl | exact Or.inr rfl)
    (hf : X.fn x = true ∨ X.env.scope.names.lookup x = some .local := by first | exact .inl rfl | exact .inr rfl) (hfs : ∀ x, foldedSetIterable iter X.env x = pure x := by intro _; rfl) : wS X (.For (.Name x tpos) iter body [] pos) D σ H :=
  ws_for hp hc hi (pg_name hN hx hl hf) f0.sh (fun S2 H2 i σ' S' H' => Same S2 S' ∧ Fm M S0 H0 S' H' ∧ ∃ y ys, Own S' H' l ys ∧ σ' = τ y ∧ I i ys)
    (fun S2 H2 f2 => ⟨Same.refl _, f0.tp f2, y0, ys0, w0.go f2, eσ, hI⟩)
    (fun S2 H2 f2 i σ' S' H' w => ⟨w.1, w.2.1.sh⟩)
    (fun S2 H2 f2 i x v σ' S' H' S'' H'' hx w fy hv => by
      obtain ⟨s1, f, y, ys, o, rfl, hI⟩ := w
      show wSs X body _ ((τ y).set j (some v)) H''
      rw [eτ]
      have k := ht i x v ys S'' H'' hx ((f2.ss.trans s1).trans fy.ss) (f.tp fy) (o.go fy) hI hv
      refine wSs_mk fun pins s Iv => thn (wSs_run k pins s Iv) fun fl s' q => ?_
      cases fl with
      | next => obtain ⟨σ4, H4, I4, S4, y, ys', s4, f4, o4, e4, hI4⟩ := q; exact ⟨σ4, H4, I4, S4, (s1.trans fy.ss).trans s4, f4, y, ys', o4, e4, hI4⟩
      | cont => obtain ⟨σ4, H4, I4, S4, y, ys', s4, f4, o4, e4, hI4⟩ := q; exact ⟨σ4, H4, I4, S4, (s1.trans fy.ss).trans s4, f4, y, ys', o4, e4, hI4⟩
      | brk => exact q
      | ret u => exact q)
    (fun S2 H2 f2 σ' S' H' w => by
      obtain ⟨s1, f, y, ys, o, rfl, hI⟩ := w
      exact hd y ys S' H' (f2.ss.trans s1) f o hI) hfs
/-- a for whose turns change what B tells -/
theorem ws_forG {B : Type} {xs : List α} {x : Str} {iter : Expr} (j : Nat) (τ : B → Option V → L2.St) (R : Nat → B → Hp → Prop) {b0 : B} {y0 : Option V} (hp : PassesOwn (model X.prog X.w) X.A X.env X.xe) (hc : X.calm = true) (hN : X.N.Nodup)
    (hR : ∀ i b S S', Same S S' → R i b S → R i b S') (hi : GI X (.Name x tpos) iter σ S xs) (hS : Same S H) (h0 : R 0 b0 S)
    (ht : ∀ i x v b S' H', xs[i]? = some x → Fp S H S' H' → R i b S' → Rep.rep S' v x →
      wSs X body { D with nx := fun σ4 H4 => ∃ S4 b y, Fp S' H' S4 H4 ∧ σ4 = τ b y ∧ R (i + 1) b S4, ct := fun σ4 H4 => ∃ S4 b y, Fp S' H' S4 H4 ∧ σ4 = τ b y ∧ R (i + 1) b S4, bk := D.nx } (τ b (some v)) H')
    (hd : ∀ b y S' H', Fp S H S' H' → R xs.length b S' → D.nx (τ b y) H')
    (eσ : σ = τ b0 y0 := by rfl) (eτ : ∀ b y v, (τ b y).set j (some v) = τ b (some v) := by intro _ _ _; rfl) (hx : X.N[j]? = some x := by rfl) (hl : Loc X.env.scope x := by first | exact Or.inl rfl | exact Or.inr rfl)
    (hf : X.fn x = true ∨ X.env.scope.names.lookup x = some .local := by first | exact .inl rfl | exact .inr rfl) (hfs : ∀ x, foldedSetIterable iter X.env x = pure x := by intro _; rfl) : wS X (.For (.Name x tpos) iter body [] pos) D σ H :=
  ws_for hp hc hi (pg_name hN hx hl hf) hS (fun S2 H2 i σ' S' H' => Fp S2 H2 S' H' ∧ ∃ b y, σ' = τ b y ∧ R i b S')
    (fun S2 H2 f2 => ⟨Fp.refl f2.sh, b0, y0, eσ, hR _ _ _ _ f2.ss h0⟩)
    (fun S2 H2 f2 i σ' S' H' w => ⟨w.1.ss, w.1.sh⟩)
    (fun S2 H2 f2 i x v σ' S' H' S'' H'' hx w fy hv => by
      obtain ⟨f, b, y, rfl, hb⟩ := w
      show wSs X body _ ((τ b y).set j (some v)) H''
      rw [eτ]
      have k := ht i x v b S'' H'' hx ((f2.trans f).trans fy) (hR _ _ _ _ fy.ss hb) hv
      refine wSs_mk fun pins s Iv => thn (wSs_run k pins s Iv) fun fl s' q => ?_
      cases fl with
      | next => obtain ⟨σ4, H4, I4, S4, b, y, f4, e4, hb4⟩ := q; exact ⟨σ4, H4, I4, S4, (f.trans fy).trans f4, b, y, e4, hb4⟩
      | cont => obtain ⟨σ4, H4, I4, S4, b, y, f4, e4, hb4⟩ := q; exact ⟨σ4, H4, I4, S4, (f.trans fy).trans f4, b, y, e4, hb4⟩
      | brk => exact q
      | ret u => exact q)
    (fun S2 H2 f2 σ' S' H' w => by
      obtain ⟨f, b, y, rfl, hb⟩ := w
      exact hd b y S' H' (f2.trans f) hb) hfs
/-- an own list seen as data for the while of a test -/
def del (l : Addr) (S : Hp) : Hp := fun a => if a = l then none else S a
theorem fp_del {o : HO} (f : Fp (upd S l o) H S' H') (n : S l = none) : Fp S H (del l S') H' := by
  refine ⟨fun a u e => ?_, fun a u e => ?_, f.hh, fun a e z => ?_⟩
  · have hne := ne_of_none e n
    unfold del; rw [if_neg hne]
    exact f.ss a u (by rw [upd_ne hne]; exact e)
  · unfold del at e
    by_cases c : a = l
    · rw [if_pos c] at e; cases e
    · rw [if_neg c] at e; exact f.sh a u e
  · unfold del
    by_cases c : a = l
    · rw [if_pos c]
    · rw [if_neg c]; exact f.fr a (by rw [upd_ne c]; exact e) z
theorem ws_ifOwn {c : Expr} {els : List Stmt} {k : Bool} (w : Own S H l ys) (hz : ys.length ≤ most) (g : ∀ S1, Same S S1 → Rep.rep S1 (.ref l) ys → GT X c σ S1 k) (hS : Same S H) (h1 : k = true → ∀ S' H', Fp S H S' H' → wSs X body D σ H') (h2 : k = false → ∀ S' H', Fp S H S' H' → wSs X els D σ H') : wS X (.If c body els pos) D σ H := by
  obtain ⟨acc, e1, e2⟩ := w.ex
  have s1 : Same S (upd S l (.lst acc)) := fun a u e => by rw [upd_ne (ne_of_none e w.no)]; exact e
  have s2 : Same (upd S l (.lst acc)) H := fun a u e => by
    by_cases c : a = l
    · subst c; rw [upd_same] at e; rw [e1]; exact e
    · rw [upd_ne c] at e; exact hS a u e
  exact ws_if (g _ s1 ⟨l, acc, rfl, upd_same, hz, e2.mono s1⟩) s2 (fun hk S' H' f => h1 hk (del l S') H' (fp_del f w.no)) fun hk S' H' f => h2 hk (del l S') H' (fp_del f w.no)
end
end Cp
namespace Cp
open PySem PySem.Spec PyProof.Rows L2
section
variable {P : Program} {w : World} {K : PySem.W.Frag} {mg : Str → Option Value} {base : Heap}
def l_is_part (_law_one : List Str) (_law_other : List Str) : Bool := (decide ((List.filter (fun (y24 : Str) => (!decide (y24 ∈ _law_other))) _law_one) = []))
abbrev n_s_law_is_part : List Str := ["_law_one", "_law_other", "_law_name"]
theorem sc_law_is_part : FnScope n_s_law_is_part ["_law_one", "_law_other"] (defScope s_law_is_part) := ⟨rfl, rfl, rfl, by decide +kernel, rfl, by decide +kernel, by decide +kernel⟩
abbrev P_law_is_part : Sp := Pr (List Str × List Str) (fun a => [dt a.1, dt a.2]) (fun a => dt (l_is_part a.1 a.2)) (fun _ => True)
theorem w_law_is_part (T : Top K mg) : Has P w K mg base "_law_is_part" ["_law_one", "_law_other"] 1 P_law_is_part := by
  obtain ⟨fd, F, g⟩ := T.fn 43 rfl rfl rfl
  refine has_of F g (F.bindsN fun _ _ _ _ _ _ us hl => match us, hl with | [_, _], _ => rfl) sc_law_is_part (fun _ => rfl) ?_
  have nd := sc_law_is_part.nd
  intro cdv A0 outer s H E hr ⟨_law_one, _law_other⟩ S vs D hS h hp q hn
  obtain ⟨v__law_one, _, rfl, h__law_one, v__law_other, _, rfl, h__law_other, rfl⟩ := h
  exact wss_one (ws_ret (Fp.refl hS) (ge_eq hr (ge_flt n_s_law_is_part (defScope s_law_is_part) 2 (fun (y24 : Str) => (!decide (y24 ∈ _law_other))) rfl nd (gi_list (ge_name 0 rfl h__law_one)) (rep_small h__law_one) (fun y24 v24 S24 hs24 hm24 hv24 _ _ _ _ _ => gts_one (gt_ni hr (ge_name 2 rfl hv24) (ge_name 1 rfl (Rep.mono hs24 h__law_other)))) (fun y24 v24 S24 hs24 hm24 hp24 hv24 _ _ _ _ _ => (ge_name 2 rfl hv24))) ge_nil) q)
def stepF (acc : List (List Str)) (n : Str) : List (List Str) := acc ++ acc.map fun (y : List Str) => y ++ ([n] : List Str)
def l_fields (names : List Str) : List (List Str) := (names.foldl stepF [[]]).drop 1
theorem stepF_bd (ns : List Str) : ∀ (acc : List (List Str)) (k : Nat), (∀ s ∈ acc, s.length ≤ k) → (ns.foldl stepF acc).length = acc.length * 2 ^ ns.length ∧ ∀ s ∈ ns.foldl stepF acc, s.length ≤ k + ns.length := by
  induction ns with
  | nil => intro acc k h; simpa using h
  | cons n ns ih =>
    intro acc k h
    have h2 : ∀ s ∈ stepF acc n, s.length ≤ k + 1 := by
      intro s hs
      unfold stepF at hs
      rcases List.mem_append.mp hs with z | z
      · exact Nat.le_succ_of_le (h s z)
      · obtain ⟨t, ht, rfl⟩ := List.mem_map.mp z
        rw [List.length_append]; exact Nat.succ_le_succ (h t ht)
    obtain ⟨a, b⟩ := ih (stepF acc n) (k + 1) h2
    refine ⟨?_, fun s hs => ?_⟩
    · rw [List.foldl_cons, a]
      unfold stepF
      rw [List.length_append, List.length_map, List.length_cons, Nat.pow_succ, ← Nat.two_mul, Nat.mul_assoc, Nat.mul_left_comm, Nat.mul_comm 2]
    · have := b s hs
      rw [List.length_cons]; omega
abbrev n_s_law_fields : List Str := ["_law_names_here", "_law_found", "_law_name", "_law_some"]
theorem sc_law_fields : FnScope n_s_law_fields ["_law_names_here"] (defScope s_law_fields) := ⟨rfl, rfl, rfl, by decide +kernel, rfl, by decide +kernel, by decide +kernel⟩
abbrev P_law_fields : Sp := Pr (List Str) (fun a => [dt a]) (fun a => dt (l_fields a)) (fun a => a.length ≤ 8)
theorem w_law_fields (T : Top K mg) : Has P w K mg base "_law_fields" ["_law_names_here"] 1 P_law_fields := by
  obtain ⟨fd, F, g⟩ := T.fn 42 rfl rfl rfl
  refine has_of F g (F.bindsN fun _ _ _ _ _ _ us hl => match us, hl with | [_], _ => rfl) sc_law_fields (fun _ => rfl) ?_
  have nd := sc_law_fields.nd
  intro cdv A0 outer s H E hr _law_names_here S vs D hS h hp q hn
  obtain ⟨v__law_names_here, _, rfl, h__law_names_here, rfl⟩ := h
  refine wss_cons (ws_set 1 (ge_lst (xs := ([[]] : List (List Str))) (gA_cons ge_nil gA_nil)) hS (fun v1 S1 H1 f1 h1 => wss_cons (ws_for1 2 (fun b : List (List Str) => dt b) (fun vb y => [some v__law_names_here, some vb, y, none]) (fun i b => b = (_law_names_here.take i).foldl stepF [[]]) PassesOwn.never rfl nd
    (gi_list (ge_name 0 rfl (Rep.mono f1.ss h__law_names_here))) f1.sh h1 rfl ?turn ?fin)) nd)
  case turn =>
    intro i x v b vb S2 H2 hx f2 hb hI hv
    have hk : b.length ≤ 256 ∧ ∀ s ∈ b, s.length ≤ 8 := by
      obtain ⟨a1, a2⟩ := stepF_bd (_law_names_here.take i) [[]] 0 (by simp)
      rw [← hI] at a1 a2
      have hn : (_law_names_here.take i).length ≤ 8 := Nat.le_trans (by rw [List.length_take]; exact Nat.min_le_right _ _) hp
      refine ⟨?_, fun s hs => Nat.le_trans (a2 s hs) (by omega)⟩
      rw [a1]
      have h3 : (2 : Nat) ^ (_law_names_here.take i).length ≤ 2 ^ 8 := Nat.pow_le_pow_right (by decide) hn
      simpa using h3
    exact wss_one (ws_set 1 (ge_cat (ge_name 1 rfl hb) (ge_map n_s_law_fields (defScope s_law_fields) 3 (fun (y25 : List Str) => (y25 ++ ([x] : List Str))) rfl nd (gi_list (ge_name 1 rfl hb)) (rep_small hb) (fun y25 v25 S25 hs25 hm25 hv25 _ _ _ _ _ => (ge_cat (ge_name 3 rfl hv25) (ge_lst (xs := ([x] : List Str)) (gA_cons (ge_name 2 rfl (Rep.mono hs25 hv)) gA_nil)) (by show _ ≤ 4000; have := hk.2 _ hm25; rw [List.length_singleton]; omega)))) (by show _ ≤ 4000; have := hk.1; rw [List.length_map]; omega)) f2.sh (fun v3 S3 H3 f3 h3 => ⟨S3, v3, _, _, f3, rfl, h3, by rw [take_snoc hx, List.foldl_append, hI]; rfl⟩) nd)
  case fin =>
    intro b vb y S2 H2 f2 hb hI
    refine wss_one (ws_ret (f1.trans f2) (ge_tail (ge_name 1 rfl hb)) (fun v S' H' f h => q v S' H' f (cast_rep ?_ h)))
    rw [hI, List.take_length]; rfl
def ddS {α : Type} [DecidableEq α] (acc : List α) (x : α) : List α := if x ∈ acc then acc else acc ++ [x]
def dd {α : Type} [DecidableEq α] (xs : List α) : List α := xs.foldl ddS []
theorem ddS_yes {α : Type} [DecidableEq α] {acc : List α} {x : α} (h : x ∈ acc) : ddS acc x = acc := if_pos h
theorem ddS_no {α : Type} [DecidableEq α] {acc : List α} {x : α} (h : ¬ x ∈ acc) : ddS acc x = acc ++ [x] := if_neg h
theorem dd_len {α : Type} [DecidableEq α] (xs : List α) : ∀ acc : List α, (xs.foldl ddS acc).length ≤ acc.length + xs.length := by
  induction xs with
  | nil => intro acc; simp
  | cons x xs ih =>
    intro acc
    rw [List.foldl_cons, List.length_cons]
    refine Nat.le_trans (ih _) ?_
    by_cases h : x ∈ acc
    · rw [ddS_yes h]; omega
    · rw [ddS_no h, List.length_append, List.length_singleton]; omega
def l_least (_law_some : List (List Str)) : List (List Str) := (List.filter (fun (y26 : List Str) => (decide ((List.filter (fun (y27 : List Str) => ((!decide (y27 = y26)) && (l_is_part y27 y26))) (dd (srt _law_some))) = []))) (dd (srt _law_some)))
abbrev n_s_law_least : List Str := ["_law_some", "_law_plain", "_law_lot", "_law_one"]
theorem sc_law_least : FnScope n_s_law_least ["_law_some"] (defScope s_law_least) := ⟨rfl, rfl, rfl, by decide +kernel, rfl, by decide +kernel, by decide +kernel⟩
abbrev P_law_least : Sp := Pr (List (List Str)) (fun a => [dt a]) (fun a => dt (l_least a)) (fun _ => True)
theorem w_law_least (T : Top K mg) (c_law_is_part : Has P w K mg base "_law_is_part" ["_law_one", "_law_other"] 1 P_law_is_part) : Has P w K mg base "_law_least" ["_law_some"] 2 P_law_least := by
  obtain ⟨fd, F, g⟩ := T.fn 44 rfl rfl rfl
  refine has_of F g (F.bindsN fun _ _ _ _ _ _ us hl => match us, hl with | [_], _ => rfl) sc_law_least (fun _ => rfl) ?_
  have nd := sc_law_least.nd
  have b_sorted := T.free 64
  intro cdv A0 outer s H E hr _law_some S vs D hS h hp q hn
  obtain ⟨v__law_some, _, rfl, h__law_some, rfl⟩ := h
  refine wss_cons (ws_own (γ := List Str) (i := 1) nd hS (fun l H1 nl f1 _ w1 => wss_cons (ws_forA (M := NoM) 2 l (fun y => [some v__law_some, some (.ref l), y, none]) (fun i ys => ys = ((srt _law_some).take i).foldl ddS []) PassesOwn.never rfl nd (fun z => z)
    (gi_list (ge_sorted hr b_sorted (ge_name 0 rfl (Rep.mono f1.ss h__law_some)))) nl f1.fm w1 rfl ?turn ?fin)))
  case turn =>
    intro i x v ys S2 H2 hx s2 f2 w2 hI hv
    have hlen : ys.length ≤ i := by
      have h1 := dd_len ((srt _law_some).take i) []
      rw [← hI, List.length_take, List.length_nil] at h1
      omega
    have hi : i < 4000 := by
      have h1 := (List.getElem?_eq_some_iff.mp hx).1
      rw [srt_len] at h1
      exact Nat.lt_of_lt_of_le h1 (rep_small h__law_some)
    refine wss_one (ws_ifOwn w2 (by show _ ≤ 4000; omega) (fun S5 hs5 hl5 => (gt_ni hr (ge_name 2 rfl (Rep.mono hs5 hv)) (ge_name 1 rfl hl5))) f2.sh (fun hk S3 H3 f3 => ?_) (fun hk S3 H3 f3 => wss_nil ⟨S3, _, ys, f3.ss, f2.tp f3, w2.go f3, rfl, ?_⟩))
    · refine wss_one (ws_ownapp (w2.go f3) (ge_name 1 rfl (show (rRef l).p S3 (.ref l) from rfl)) (ge_name 2 rfl (Rep.mono f3.ss hv)) f3.sh (by show _ < 4000; omega) (fun S4 H4 H5 f4 e5 w4 => ⟨S4, _, _, f3.ss.trans f4.ss, ?_, w4, rfl, ?_⟩))
      · obtain ⟨o, rfl⟩ := e5
        exact ((f2.tp f3).tp f4).mutD (.inl nl) w4.no
      · rw [take_snoc hx, List.foldl_append, ← hI]
        have hn : ¬ x ∈ ys := by simpa using hk
        exact (ddS_no hn).symm
    · rw [take_snoc hx, List.foldl_append, ← hI]
      have hn : x ∈ ys := by simpa using hk
      exact (ddS_yes hn).symm
  case fin =>
    intro y ys S2 H2 s2 f2 w2 hI
    obtain ⟨acc, e1, e2⟩ := w2.ex
    rw [List.take_length] at hI
    have hz : ys.length ≤ most := by
      have h1 := dd_len (srt _law_some) []
      rw [← hI, List.length_nil, srt_len] at h1
      exact Nat.le_trans h1 (by have := rep_small h__law_some; omega)
    have h3 : Rep.rep (upd S2 l (.lst acc)) (.ref l) (dd (srt _law_some)) := cast_rep hI (own_done w2.no e2 hz)
    have f3 := (f2.keepD nl w2.no e1).fp
    exact wss_one (ws_ret f3 (ge_flt n_s_law_least (defScope s_law_least) 2 (fun (y26 : List Str) => (decide ((List.filter (fun (y27 : List Str) => ((!decide (y27 = y26)) && (l_is_part y27 y26))) (dd (srt _law_some))) = []))) rfl nd (gi_list (ge_name 1 rfl h3)) (rep_small h3) (fun y26 v26 S26 hs26 hm26 hv26 _ _ _ _ _ => gts_one (gt_eq hr (ge_flt n_s_law_least (relS _ (defScope s_law_least)) 3 (fun (y27 : List Str) => ((!decide (y27 = y26)) && (l_is_part y27 y26))) rfl nd (gi_list (ge_name 1 rfl (Rep.mono hs26 h3))) (rep_small (Rep.mono hs26 h3)) (fun y27 v27 S27 hs27 hm27 hv27 _ _ _ _ _ => gts_one (gt_w (gw_and (gt_ne hr (ge_name 3 rfl hv27) (ge_name 2 rfl (Rep.mono hs27 hv26))) fun _ => (gw_and1 (gt_val (ge_call (dt (l_is_part y27 y26)) c_law_is_part hr (y27, y26) (gA_cons (ge_name 3 rfl hv27) (gA_cons (ge_name 2 rfl (Rep.mono hs27 hv26)) gA_nil)) trivial)))))) (fun y27 v27 S27 hs27 hm27 hp27 hv27 _ _ _ _ _ => (ge_name 3 rfl hv27))) ge_nil)) (fun y26 v26 S26 hs26 hm26 hp26 hv26 _ _ _ _ _ => (ge_name 2 rfl hv26))) q)
def l_lots (_law_rows : List (List Str)) (_law_name : Str) : List (List Str) := (l_least (List.map (fun (y28 : List Str) => (srt (List.take (Int.toNat (place y28 _law_name : Int)) y28))) _law_rows))
abbrev n_s_law_lots : List Str := ["_law_rows", "_law_name", "_law_row"]
theorem sc_law_lots : FnScope n_s_law_lots ["_law_rows", "_law_name"] (defScope s_law_lots) := ⟨rfl, rfl, rfl, by decide +kernel, rfl, by decide +kernel, by decide +kernel⟩
abbrev P_law_lots : Sp := Pr (List (List Str) × Str) (fun a => [dt a.1, dt a.2]) (fun a => dt (l_lots a.1 a.2)) (fun a => ∀ row ∈ a.1, a.2 ∈ row)
theorem w_law_lots (T : Top K mg) (c_law_least : Has P w K mg base "_law_least" ["_law_some"] 2 P_law_least) : Has P w K mg base "_law_lots" ["_law_rows", "_law_name"] 3 P_law_lots := by
  obtain ⟨fd, F, g⟩ := T.fn 45 rfl rfl rfl
  refine has_of F g (F.bindsN fun _ _ _ _ _ _ us hl => match us, hl with | [_, _], _ => rfl) sc_law_lots (fun _ => rfl) ?_
  have nd := sc_law_lots.nd
  have b_sorted := T.free 64
  intro cdv A0 outer s H E hr ⟨_law_rows, _law_name⟩ S vs D hS h hp q hn
  obtain ⟨v__law_rows, _, rfl, h__law_rows, v__law_name, _, rfl, h__law_name, rfl⟩ := h
  exact wss_one (ws_ret (Fp.refl hS) (ge_call (dt (l_least (List.map (fun (y28 : List Str) => (srt (List.take (Int.toNat (place y28 _law_name : Int)) y28))) _law_rows))) c_law_least hr (List.map (fun (y28 : List Str) => (srt (List.take (Int.toNat (place y28 _law_name : Int)) y28))) _law_rows) (gA_cons (ge_map n_s_law_lots (defScope s_law_lots) 2 (fun (y28 : List Str) => (srt (List.take (Int.toNat (place y28 _law_name : Int)) y28))) rfl nd (gi_list (ge_name 0 rfl h__law_rows)) (rep_small h__law_rows) (fun y28 v28 S28 hs28 hm28 hv28 _ _ _ _ _ => (ge_sorted hr b_sorted (ge_to' (ge_name 2 rfl hv28) (ge_index hr (ge_name 2 rfl hv28) (ge_name 1 rfl (Rep.mono hs28 h__law_name)) (hp _ hm28)) (Int.natCast_nonneg _))))) gA_nil) trivial) q)
def okLot (mine : List (List Str)) (z : List Str) : Bool := !((decide ((List.filter (fun (y29 : List Str) => (l_is_part y29 z)) mine) = [])))
def l_is_within (names : List Str) (rows others : List (List Str)) : Bool := names.all fun n => (l_lots rows n).all fun z => okLot (l_lots others n) z
abbrev n_s_law_is_within : List Str := ["_law_names_here", "_law_rows", "_law_others", "_law_name", "_law_mine", "_law_lot", "_law_one"]
theorem sc_law_is_within : FnScope n_s_law_is_within ["_law_names_here", "_law_rows", "_law_others"] (defScope s_law_is_within) := ⟨rfl, rfl, rfl, by decide +kernel, rfl, by decide +kernel, by decide +kernel⟩
abbrev P_law_is_within : Sp := Pr (List Str × List (List Str) × List (List Str)) (fun a => [dt a.1, dt a.2.1, dt a.2.2]) (fun a => dt (l_is_within a.1 a.2.1 a.2.2)) (fun a => (∀ n ∈ a.1, ∀ row ∈ a.2.1, n ∈ row) ∧ ∀ n ∈ a.1, ∀ row ∈ a.2.2, n ∈ row)
theorem w_law_is_within (T : Top K mg) (c_law_is_part : Has P w K mg base "_law_is_part" ["_law_one", "_law_other"] 1 P_law_is_part) (c_law_lots : Has P w K mg base "_law_lots" ["_law_rows", "_law_name"] 3 P_law_lots) : Has P w K mg base "_law_is_within" ["_law_names_here", "_law_rows", "_law_others"] 4 P_law_is_within := by
  obtain ⟨fd, F, g⟩ := T.fn 46 rfl rfl rfl
  refine has_of F g (F.bindsN fun _ _ _ _ _ _ us hl => match us, hl with | [_, _, _], _ => rfl) sc_law_is_within (fun _ => rfl) ?_
  have nd := sc_law_is_within.nd
  intro cdv A0 outer s H E hr ⟨_law_names_here, _law_rows, _law_others⟩ S vs D hS h hp q hn
  obtain ⟨v__law_names_here, _, rfl, h__law_names_here, v__law_rows, _, rfl, h__law_rows, v__law_others, _, rfl, h__law_others, rfl⟩ := h
  refine wss_cons (ws_forG (B := Option V × Option V) 3 (fun b y => [some v__law_names_here, some v__law_rows, some v__law_others, y, b.1, b.2, none]) (fun i b S => ∀ n ∈ _law_names_here.take i, ((l_lots _law_rows n).all fun z => okLot (l_lots _law_others n) z) = true) (b0 := (none, none)) PassesOwn.never rfl nd (fun _ _ _ _ _ h => h)
    (gi_list (ge_name 0 rfl h__law_names_here)) hS (by simp) ?turn ?fin)
  case turn =>
    intro i x v b S2 H2 hx f2 hI hv
    refine wss_cons (ws_set 4 (ge_call (dt (l_lots _law_others x)) c_law_lots hr (_law_others, x) (gA_cons (ge_name 2 rfl (Rep.mono f2.ss h__law_others)) (gA_cons (ge_name 3 rfl hv) gA_nil)) (hp.2 x (List.mem_of_getElem? hx))) f2.sh (fun v4 S4 H4 f4 h4 => wss_one (ws_for0 5 (fun y => [some v__law_names_here, some v__law_rows, some v__law_others, some v, some v4, y, none]) (fun i => ∀ z ∈ (l_lots _law_rows x).take i, okLot (l_lots _law_others x) z = true) PassesOwn.never rfl nd
      (gi_list (ge_call (dt (l_lots _law_rows x)) c_law_lots hr (_law_rows, x) (gA_cons (ge_name 1 rfl (Rep.mono (f2.trans f4).ss h__law_rows)) (gA_cons (ge_name 3 rfl (Rep.mono f4.ss hv)) gA_nil)) (hp.1 x (List.mem_of_getElem? hx)))) f4.sh (by simp) ?turn2 ?fin2)) nd)
    case turn2 =>
      intro i2 z w S5 H5 hz5 f5 hI2 hz
      refine wss_one (ws_if (gt_eq hr (ge_flt n_s_law_is_within (defScope s_law_is_within) 6 (fun (y29 : List Str) => (l_is_part y29 z)) rfl nd (gi_list (ge_name 4 rfl (Rep.mono f5.ss h4))) (rep_small (Rep.mono f5.ss h4)) (fun y29 v29 S29 hs29 hm29 hv29 _ _ _ _ _ => gts_one (gt_val (ge_call (dt (l_is_part y29 z)) c_law_is_part hr (y29, z) (gA_cons (ge_name 6 rfl hv29) (gA_cons (ge_name 5 rfl (Rep.mono hs29 hz)) gA_nil)) trivial))) (fun y29 v29 S29 hs29 hm29 hp29 hv29 _ _ _ _ _ => (ge_name 6 rfl hv29))) ge_nil) f5.sh (fun hk S6 H6 f6 => wss_one (ws_ret ((((f2).trans f4).trans f5).trans f6) ge_bool (fun v S' H' f h => q v S' H' f (cast_rep ?_ h)))) (fun hk S6 H6 f6 => wss_nil ⟨S6, _, f6, rfl, fun y hy => ?_⟩))
      · symm
        cases e : l_is_within _law_names_here _law_rows _law_others with
        | false => rfl
        | true =>
          have h1 := List.all_eq_true.mp (List.all_eq_true.mp e x (List.mem_of_getElem? hx)) z (List.mem_of_getElem? hz5)
          unfold okLot at h1
          rw [hk] at h1
          cases h1
      · rw [take_snoc hz5] at hy
        rcases List.mem_append.mp hy with z1 | z1
        · exact hI2 y z1
        · rw [List.mem_singleton.mp z1]
          unfold okLot
          rw [hk]; rfl
    case fin2 =>
      intro y S5 H5 f5 hI2
      rw [List.take_length] at hI2
      refine ⟨S5, (some v4, y), some v, f4.trans f5, rfl, fun n hn => ?_⟩
      rw [take_snoc hx] at hn
      rcases List.mem_append.mp hn with z1 | z1
      · exact hI n z1
      · rw [List.mem_singleton.mp z1]
        exact List.all_eq_true.mpr hI2
  case fin =>
    intro b y S2 H2 f2 hI
    rw [List.take_length] at hI
    exact wss_one (ws_ret f2 ge_bool (fun v S' H' f h => q v S' H' f (cast_rep (List.all_eq_true.mpr hI).symm h)))
def l_is_alike (_law_names_here : List Str) (_law_rows : List (List Str)) (_law_others : List (List Str)) : Bool := ((l_is_within _law_names_here _law_rows _law_others) && (l_is_within _law_names_here _law_others _law_rows))
abbrev n_s_law_is_alike : List Str := ["_law_names_here", "_law_rows", "_law_others"]
theorem sc_law_is_alike : FnScope n_s_law_is_alike ["_law_names_here", "_law_rows", "_law_others"] (defScope s_law_is_alike) := ⟨rfl, rfl, rfl, by decide +kernel, rfl, by decide +kernel, by decide +kernel⟩
abbrev P_law_is_alike : Sp := Pr (List Str × List (List Str) × List (List Str)) (fun a => [dt a.1, dt a.2.1, dt a.2.2]) (fun a => dt (l_is_alike a.1 a.2.1 a.2.2)) (fun a => (∀ n ∈ a.1, ∀ row ∈ a.2.1, n ∈ row) ∧ ∀ n ∈ a.1, ∀ row ∈ a.2.2, n ∈ row)
theorem w_law_is_alike (T : Top K mg) (c_law_is_within : Has P w K mg base "_law_is_within" ["_law_names_here", "_law_rows", "_law_others"] 4 P_law_is_within) : Has P w K mg base "_law_is_alike" ["_law_names_here", "_law_rows", "_law_others"] 5 P_law_is_alike := by
  obtain ⟨fd, F, g⟩ := T.fn 47 rfl rfl rfl
  refine has_of F g (F.bindsN fun _ _ _ _ _ _ us hl => match us, hl with | [_, _, _], _ => rfl) sc_law_is_alike (fun _ => rfl) ?_
  have nd := sc_law_is_alike.nd
  intro cdv A0 outer s H E hr ⟨_law_names_here, _law_rows, _law_others⟩ S vs D hS h hp q hn
  obtain ⟨v__law_names_here, _, rfl, h__law_names_here, v__law_rows, _, rfl, h__law_rows, v__law_others, _, rfl, h__law_others, rfl⟩ := h
  exact wss_one (ws_ret (Fp.refl hS) (ge_and (ge_call (dt (l_is_within _law_names_here _law_rows _law_others)) c_law_is_within hr (_law_names_here, _law_rows, _law_others) (gA_cons (ge_name 0 rfl h__law_names_here) (gA_cons (ge_name 1 rfl h__law_rows) (gA_cons (ge_name 2 rfl h__law_others) gA_nil))) hp) fun _ => (ge_one (ge_call (dt (l_is_within _law_names_here _law_others _law_rows)) c_law_is_within hr (_law_names_here, _law_others, _law_rows) (gA_cons (ge_name 0 rfl h__law_names_here) (gA_cons (ge_name 2 rfl h__law_others) (gA_cons (ge_name 1 rfl h__law_rows) gA_nil))) ⟨hp.2, hp.1⟩))) q)
def l_meets (_law_row : List Str) (_law_field : List Str) (_law_name : Str) : Bool := (decide ((gat (List.filter (fun (y30 : Str) => (decide (y30 ∈ _law_field))) _law_row) 0) = _law_name))
abbrev n_s_law_meets : List Str := ["_law_row", "_law_field", "_law_name", "_law_one"]
theorem sc_law_meets : FnScope n_s_law_meets ["_law_row", "_law_field", "_law_name"] (defScope s_law_meets) := ⟨rfl, rfl, rfl, by decide +kernel, rfl, by decide +kernel, by decide +kernel⟩
abbrev P_law_meets : Sp := Pr (List Str × List Str × Str) (fun a => [dt a.1, dt a.2.1, dt a.2.2]) (fun a => dt (l_meets a.1 a.2.1 a.2.2)) (fun a => 0 < (a.1.filter fun (y : Str) => decide (y ∈ a.2.1)).length)
theorem w_law_meets (T : Top K mg) : Has P w K mg base "_law_meets" ["_law_row", "_law_field", "_law_name"] 1 P_law_meets := by
  obtain ⟨fd, F, g⟩ := T.fn 48 rfl rfl rfl
  refine has_of F g (F.bindsN fun _ _ _ _ _ _ us hl => match us, hl with | [_, _, _], _ => rfl) sc_law_meets (fun _ => rfl) ?_
  have nd := sc_law_meets.nd
  intro cdv A0 outer s H E hr ⟨_law_row, _law_field, _law_name⟩ S vs D hS h hp q hn
  obtain ⟨v__law_row, _, rfl, h__law_row, v__law_field, _, rfl, h__law_field, v__law_name, _, rfl, h__law_name, rfl⟩ := h
  exact wss_one (ws_ret (Fp.refl hS) (ge_eq hr (ge_ix' (j := 0) (ge_flt n_s_law_meets (defScope s_law_meets) 3 (fun (y30 : Str) => (decide (y30 ∈ _law_field))) rfl nd (gi_list (ge_name 0 rfl h__law_row)) (rep_small h__law_row) (fun y30 v30 S30 hs30 hm30 hv30 _ _ _ _ _ => gts_one (gt_in hr (ge_name 3 rfl hv30) (ge_name 1 rfl (Rep.mono hs30 h__law_field)))) (fun y30 v30 S30 hs30 hm30 hp30 hv30 _ _ _ _ _ => (ge_name 3 rfl hv30))) ge_int hp) (ge_name 2 rfl h__law_name)) q)
theorem met_pos {row lot : List Str} {n : Str} (h : n ∈ row) : 0 < (row.filter fun (y : Str) => decide (y ∈ lot ++ ([n] : List Str))).length :=
  List.length_pos_of_mem (List.mem_filter.mpr ⟨h, decide_eq_true (List.mem_append_right _ (List.mem_singleton.mpr rfl))⟩)
def l_row_keeps (_law_row : List Str) (_law_lot : List Str) (_law_name : Str) : Bool := (!(l_meets _law_row (_law_lot ++ ([_law_name] : List Str)) _law_name))
abbrev n_s_law_row_keeps : List Str := ["_law_row", "_law_lot", "_law_name"]
theorem sc_law_row_keeps : FnScope n_s_law_row_keeps ["_law_row", "_law_lot", "_law_name"] (defScope s_law_row_keeps) := ⟨rfl, rfl, rfl, by decide +kernel, rfl, by decide +kernel, by decide +kernel⟩
abbrev P_law_row_keeps : Sp := Pr (List Str × List Str × Str) (fun a => [dt a.1, dt a.2.1, dt a.2.2]) (fun a => dt (l_row_keeps a.1 a.2.1 a.2.2)) (fun a => a.2.2 ∈ a.1 ∧ a.2.1.length ≤ 100)
theorem w_law_row_keeps (T : Top K mg) (c_law_meets : Has P w K mg base "_law_meets" ["_law_row", "_law_field", "_law_name"] 1 P_law_meets) : Has P w K mg base "_law_row_keeps" ["_law_row", "_law_lot", "_law_name"] 2 P_law_row_keeps := by
  obtain ⟨fd, F, g⟩ := T.fn 49 rfl rfl rfl
  refine has_of F g (F.bindsN fun _ _ _ _ _ _ us hl => match us, hl with | [_, _, _], _ => rfl) sc_law_row_keeps (fun _ => rfl) ?_
  have nd := sc_law_row_keeps.nd
  intro cdv A0 outer s H E hr ⟨_law_row, _law_lot, _law_name⟩ S vs D hS h hp q hn
  obtain ⟨v__law_row, _, rfl, h__law_row, v__law_lot, _, rfl, h__law_lot, v__law_name, _, rfl, h__law_name, rfl⟩ := h
  exact wss_one (ws_ret (Fp.refl hS) (ge_not (ge_call (dt (l_meets _law_row (_law_lot ++ ([_law_name] : List Str)) _law_name)) c_law_meets hr (_law_row, (_law_lot ++ ([_law_name] : List Str)), _law_name) (gA_cons (ge_name 0 rfl h__law_row) (gA_cons (ge_cat (ge_name 1 rfl h__law_lot) (ge_lst (xs := ([_law_name] : List Str)) (gA_cons (ge_name 2 rfl h__law_name) gA_nil)) (by show _ ≤ 4000; have h : _law_lot.length ≤ 100 := hp.2; rw [List.length_singleton]; omega)) (gA_cons (ge_name 2 rfl h__law_name) gA_nil))) (met_pos hp.1))) q)
end
end Cp
namespace Cp
open PySem PySem.Spec PyProof.Rows L2
section
variable {P : Program} {w : World} {K : PySem.W.Frag} {mg : Str → Option Value} {base : Heap}
def stepR (names : List Str) (acc : List (List Str)) (row : List Str) : List (List Str) := (acc ++ (List.map (fun (y31 : Str) => (row ++ ([y31] : List Str))) (List.filter (fun (y31 : Str) => (!decide (y31 ∈ row))) names)))
def nextR (names : List Str) (found : List (List Str)) : List (List Str) := found.foldl (stepR names) []
def iterR (names : List Str) : Nat → List (List Str)
  | 0 => [[]]
  | i + 1 => nextR names (iterR names i)
def l_all_rows (names : List Str) : List (List Str) := iterR names names.length
theorem stepR_bd (names : List Str) (k : Nat) (rows : List (List Str)) : ∀ acc : List (List Str), (∀ r ∈ rows, r.length ≤ k) → (∀ r ∈ acc, r.length ≤ k + 1) →
    (rows.foldl (stepR names) acc).length ≤ acc.length + rows.length * names.length ∧ ∀ r ∈ rows.foldl (stepR names) acc, r.length ≤ k + 1 := by
  induction rows with
  | nil => intro acc h1 h2; exact ⟨by simp, h2⟩
  | cons r rows ih =>
    intro acc h1 h2
    have h3 : ∀ q ∈ stepR names acc r, q.length ≤ k + 1 := by
      intro q hq
      unfold stepR at hq
      rcases List.mem_append.mp hq with z | z
      · exact h2 q z
      · obtain ⟨t, ht, rfl⟩ := List.mem_map.mp z
        rw [List.length_append]; exact Nat.succ_le_succ (h1 r List.mem_cons_self)
    obtain ⟨a, b⟩ := ih (stepR names acc r) (fun q hq => h1 q (List.mem_cons_of_mem _ hq)) h3
    refine ⟨Nat.le_trans a ?_, b⟩
    have h4 : (stepR names acc r).length ≤ acc.length + names.length := by
      unfold stepR
      rw [List.length_append, List.length_map]
      exact Nat.add_le_add_left (List.length_filter_le _ _) _
    rw [List.length_cons, Nat.succ_mul]
    omega
theorem iterR_bd {names : List Str} (h : names.length ≤ 4) : ∀ i, (iterR names i).length ≤ 4 ^ i ∧ ∀ r ∈ iterR names i, r.length ≤ i
  | 0 => ⟨by simp [iterR], by simp [iterR]⟩
  | i + 1 => by
    obtain ⟨a, b⟩ := iterR_bd h i
    obtain ⟨a2, b2⟩ := stepR_bd names i (iterR names i) [] b (by simp)
    refine ⟨Nat.le_trans a2 ?_, b2⟩
    rw [List.length_nil, Nat.zero_add, Nat.pow_succ]
    exact Nat.mul_le_mul a h
abbrev n_s_law_all_rows : List Str := ["_law_names_here", "_law_found", "_law_turn", "_law_longer", "_law_row", "_law_name"]
theorem sc_law_all_rows : FnScope n_s_law_all_rows ["_law_names_here"] (defScope s_law_all_rows) := ⟨rfl, rfl, rfl, by decide +kernel, rfl, by decide +kernel, by decide +kernel⟩
abbrev P_law_all_rows : Sp := Pr (List Str) (fun a => [dt a]) (fun a => dt (l_all_rows a)) (fun a => a.length ≤ 4)
theorem w_law_all_rows (T : Top K mg) : Has P w K mg base "_law_all_rows" ["_law_names_here"] 1 P_law_all_rows := by
  obtain ⟨fd, F, g⟩ := T.fn 50 rfl rfl rfl
  refine has_of F g (F.bindsN fun _ _ _ _ _ _ us hl => match us, hl with | [_], _ => rfl) sc_law_all_rows (fun _ => rfl) ?_
  have nd := sc_law_all_rows.nd
  have b_len := T.free 61
  have b_range := T.free 68
  intro cdv A0 outer s H E hr _law_names_here S vs D hS h hp q hn
  obtain ⟨v__law_names_here, _, rfl, h__law_names_here, rfl⟩ := h
  refine wss_cons (ws_set 1 (ge_lst (xs := ([[]] : List (List Str))) (gA_cons ge_nil gA_nil)) hS (fun v1 S1 H1 f1 h1 => wss_cons (ws_forG (B := V × Option V × Option V) 2 (fun b y => [some v__law_names_here, some b.1, y, b.2.1, b.2.2, none]) (fun i b S => i ≤ 4 ∧ Rep.rep S b.1 (iterR _law_names_here i)) (b0 := (v1, none, none)) PassesOwn.never rfl nd (fun _ _ _ _ s h => ⟨h.1, Rep.mono s h.2⟩)
    (gi_range' b_range (ge_len b_len (ge_name 0 rfl (Rep.mono f1.ss h__law_names_here))) (Int.natCast_nonneg _) (by rw [Int.toNat_natCast]; exact Nat.le_trans hp (by decide))) f1.sh ⟨Nat.zero_le _, h1⟩ ?turn ?fin)) nd)
  case turn =>
    intro i x v b S2 H2 hx f2 hR hv
    have hi : i < 4 := by
      have h1 := (List.getElem?_eq_some_iff.mp hx).1
      rw [upto_len, Int.toNat_natCast] at h1
      exact Nat.lt_of_lt_of_le h1 hp
    obtain ⟨bd1, bd2⟩ := iterR_bd hp i
    have bd3 : (iterR _law_names_here i).length ≤ 64 := Nat.le_trans bd1 (by
      have : (4 : Nat) ^ i ≤ 4 ^ 3 := Nat.pow_le_pow_right (by decide) (by omega)
      exact this)
    refine wss_cons (ws_set 3 (ge_nil (α := List Str)) f2.sh (fun v3 S3 H3 f3 h3 => wss_cons (ws_for1 4 (fun b : List (List Str) => dt b) (fun vb y => [some v__law_names_here, some b.1, some v, some vb, y, none]) (fun j acc => acc = ((iterR _law_names_here i).take j).foldl (stepR _law_names_here) []) PassesOwn.never rfl nd
      (gi_list (ge_name 1 rfl (Rep.mono f3.ss hR.2))) f3.sh h3 rfl ?turn2 ?fin2)) nd)
    case turn2 =>
      intro j row w acc va S4 H4 hj f4 hacc hA hrow
      have hm : row ∈ iterR _law_names_here i := List.mem_of_getElem? hj
      have hk : acc.length ≤ 256 ∧ row.length ≤ 4 := by
        obtain ⟨a1, a2⟩ := stepR_bd _law_names_here i ((iterR _law_names_here i).take j) [] (fun r hr => bd2 r (List.mem_of_mem_take hr)) (by simp)
        rw [← hA] at a1
        have h5 : ((iterR _law_names_here i).take j).length ≤ 64 := Nat.le_trans (by rw [List.length_take]; exact Nat.min_le_right _ _) bd3
        have h6 := Nat.mul_le_mul h5 hp
        exact ⟨by rw [List.length_nil] at a1; omega, Nat.le_trans (bd2 row hm) (by omega)⟩
      have hk3 : acc.length + (List.map (fun (y : Str) => (row ++ ([y] : List Str))) (List.filter (fun (y : Str) => (!decide (y ∈ row))) _law_names_here)).length ≤ most := by
        rw [List.length_map]
        have h7 := List.length_filter_le (fun (y : Str) => (!decide (y ∈ row))) _law_names_here
        have h8 : _law_names_here.length ≤ 4 := hp
        show _ ≤ 4000
        omega
      have hs9 : Same S S4 := ((f1.trans f2).trans (f3.trans f4)).ss
      exact wss_one (ws_set 3 (ge_cat (ge_name 3 rfl hacc) (ge_fm n_s_law_all_rows (defScope s_law_all_rows) 5 (fun (y31 : Str) => (!decide (y31 ∈ row))) (fun (y31 : Str) => (row ++ ([y31] : List Str))) rfl nd (gi_list (ge_name 0 rfl (Rep.mono hs9 h__law_names_here))) (rep_small (Rep.mono hs9 h__law_names_here)) (fun y31 v31 S31 hs31 hm31 hv31 _ _ _ _ _ => gts_one (gt_ni hr (ge_name 5 rfl hv31) (ge_name 4 rfl (Rep.mono hs31 hrow)))) (fun y31 v31 S31 hs31 hm31 hp31 hv31 _ _ _ _ _ => (ge_cat (ge_name 4 rfl (Rep.mono hs31 hrow)) (ge_lst (xs := ([y31] : List Str)) (gA_cons (ge_name 5 rfl hv31) gA_nil)) (by show _ ≤ 4000; have := hk.2; rw [List.length_singleton]; omega)))) hk3) f4.sh (fun v5 S5 H5 f5 h5 => ⟨S5, v5, _, _, f5, rfl, h5, by rw [take_snoc hj, List.foldl_append, ← hA]; rfl⟩) nd)
    case fin2 =>
      intro acc vb y S4 H4 f4 hacc hA
      rw [List.take_length] at hA
      exact wss_one (ws_set 1 (ge_name 3 rfl hacc) f4.sh (fun v5 S5 H5 f5 h5 => ⟨S5, (v5, some vb, y), some v, (f3.trans f4).trans f5, rfl, hi, cast_rep hA h5⟩) nd)
  case fin =>
    intro b y S2 H2 f2 hR
    have h9 : Rep.rep S2 b.1 (l_all_rows _law_names_here) := cast_rep (by rw [upto_len, Int.toNat_natCast]; rfl) hR.2
    exact wss_one (ws_ret (f1.trans f2) (ge_name 1 rfl h9) q)
def l_offs (_law_lines : List Ln) (_law_wishes : List (List Str × Str)) : List (List Str × Str) := (List.map (fun (y32 : Ln) => ((y32).lot, (y32).who)) (List.filter (fun (y32 : Ln) => (decide ((y32).word = ("off" : Str)))) _law_lines))
abbrev n_s_law_offs : List Str := ["_law_lines", "_law_wishes", "_law_found", "_law_field", "_law_name", "_law_line", "_law_one"]
theorem sc_law_offs : FnScope n_s_law_offs ["_law_lines", "_law_wishes"] (defScope s_law_offs) := ⟨rfl, rfl, rfl, by decide +kernel, rfl, by decide +kernel, by decide +kernel⟩
abbrev P_law_offs : Sp := Pr (List Ln × List (List Str × Str)) (fun a => [dt a.1, dt a.2]) (fun a => dt (l_offs a.1 a.2)) (fun a => a.2 = [])
theorem w_law_offs (T : Top K mg) : Has P w K mg base "_law_offs" ["_law_lines", "_law_wishes"] 1 P_law_offs := by
  obtain ⟨fd, F, g⟩ := T.fn 52 rfl rfl rfl
  refine has_of F g (F.bindsN fun _ _ _ _ _ _ us hl => match us, hl with | [_, _], _ => rfl) sc_law_offs (fun _ => rfl) ?_
  have nd := sc_law_offs.nd
  intro cdv A0 outer s H E hr ⟨_law_lines, _law_wishes⟩ S vs D hS h hp q hn
  obtain ⟨v__law_lines, _, rfl, h__law_lines, v__law_wishes, _, rfl, h__law_wishes, rfl⟩ := h
  have hp : _law_wishes = [] := hp
  subst hp
  refine wss_cons (ws_fm 2 n_s_law_offs (defScope s_law_offs) 5 (fun (y32 : Ln) => (decide ((y32).word = ("off" : Str)))) (fun (y32 : Ln) => ((y32).lot, (y32).who)) rfl nd (gi_list (ge_name 0 rfl h__law_lines)) (rep_small h__law_lines) (fun y32 v32 S32 hs32 hm32 hv32 _ _ _ _ _ => gts_one (gt_eq hr (ge_lnix0 (ge_name 5 rfl hv32)) ge_str)) (fun y32 v32 S32 hs32 hm32 hp32 hv32 _ _ _ _ _ => (ge_pair (gA_cons (ge_lnix1 (ge_name 5 rfl hv32)) (gA_cons (ge_lnix2 (ge_name 5 rfl hv32)) gA_nil)))) hS (fun v1 S1 H1 f1 h1 => wss_cons (ws_for0P 3 4 (fun y z => [some v__law_lines, some v__law_wishes, some v1, y, z, none, none]) (fun _ => True) PassesOwn.never rfl nd
    (gi_list (ge_name 1 rfl (Rep.mono f1.ss h__law_wishes))) f1.sh trivial (fun i x v w S' H' hx => by cases hx) (fun y z S2 H2 f2 _ => wss_one (ws_ret (f1.trans f2) (ge_name 2 rfl (Rep.mono f2.ss h1)) q)))))
theorem offs_small {S : Hp} {v : V} {lines : List Ln} {ws : List (List Str × Str)} (h : Rep.rep S v lines) : (l_offs lines ws).length ≤ most := by
  unfold l_offs
  rw [List.length_map]
  exact Nat.le_trans (List.length_filter_le _ _) (rep_small h)
theorem offs_mem {lines : List Ln} {ws : List (List Str × Str)} {y : List Str × Str} (h : y ∈ l_offs lines ws) : ∃ ln ∈ lines, y = (ln.lot, ln.who) := by
  unfold l_offs at h
  obtain ⟨ln, h1, rfl⟩ := List.mem_map.mp h
  exact ⟨ln, (List.mem_filter.mp h1).1, rfl⟩
def keepT (_law_lines : List Ln) (_law_wishes : List (List Str × Str)) (x : List Str) : Bool := (decide ((List.map (fun (y33 : (List Str × Str)) => (1 : Int)) (List.filter (fun (y33 : (List Str × Str)) => (!(l_row_keeps x y33.1 y33.2))) (l_offs _law_lines _law_wishes))) = []))
def l_kept_rows (names : List Str) (lines : List Ln) (ws : List (List Str × Str)) : List (List Str) := (l_all_rows names).filter (keepT lines ws)
theorem allrows_small {names : List Str} (h : names.length ≤ 4) : (l_all_rows names).length ≤ most := by
  refine Nat.le_trans (iterR_bd h names.length).1 ?_
  have : (4 : Nat) ^ names.length ≤ 4 ^ 4 := Nat.pow_le_pow_right (by decide) h
  exact Nat.le_trans this (by decide)
abbrev n_s_law_kept_rows : List Str := ["_law_names_here", "_law_lines", "_law_wishes", "_law_found", "_law_row", "_law_lot", "_law_name"]
theorem sc_law_kept_rows : FnScope n_s_law_kept_rows ["_law_names_here", "_law_lines", "_law_wishes"] (defScope s_law_kept_rows) := ⟨rfl, rfl, rfl, by decide +kernel, rfl, by decide +kernel, by decide +kernel⟩
abbrev P_law_kept_rows : Sp := Pr (List Str × List Ln × List (List Str × Str)) (fun a => [dt a.1, dt a.2.1, dt a.2.2]) (fun a => dt (l_kept_rows a.1 a.2.1 a.2.2)) (fun a => a.1.length ≤ 4 ∧ a.2.2 = [] ∧ ∀ ln ∈ a.2.1, ln.lot.length ≤ 100 ∧ ∀ row ∈ l_all_rows a.1, ln.who ∈ row)
theorem w_law_kept_rows (T : Top K mg) (c_law_all_rows : Has P w K mg base "_law_all_rows" ["_law_names_here"] 1 P_law_all_rows) (c_law_offs : Has P w K mg base "_law_offs" ["_law_lines", "_law_wishes"] 1 P_law_offs) (c_law_row_keeps : Has P w K mg base "_law_row_keeps" ["_law_row", "_law_lot", "_law_name"] 2 P_law_row_keeps) : Has P w K mg base "_law_kept_rows" ["_law_names_here", "_law_lines", "_law_wishes"] 3 P_law_kept_rows := by
  obtain ⟨fd, F, g⟩ := T.fn 53 rfl rfl rfl
  refine has_of F g (F.bindsN fun _ _ _ _ _ _ us hl => match us, hl with | [_, _, _], _ => rfl) sc_law_kept_rows (fun _ => rfl) ?_
  have nd := sc_law_kept_rows.nd
  intro cdv A0 outer s H E hr ⟨_law_names_here, _law_lines, _law_wishes⟩ S vs D hS h hp q hn
  obtain ⟨v__law_names_here, _, rfl, h__law_names_here, v__law_lines, _, rfl, h__law_lines, v__law_wishes, _, rfl, h__law_wishes, rfl⟩ := h
  refine wss_cons (ws_own (γ := List Str) (i := 3) nd hS (fun l H1 nl f1 _ w1 => wss_cons (ws_forA (M := NoM) 4 l (fun y => [some v__law_names_here, some v__law_lines, some v__law_wishes, some (.ref l), y, none, none]) (fun i ys => ys = ((l_all_rows _law_names_here).take i).filter (keepT _law_lines _law_wishes)) PassesOwn.never rfl nd (fun z => z)
    (gi_list (ge_call (dt (l_all_rows _law_names_here)) c_law_all_rows hr _law_names_here (gA_cons (ge_name 0 rfl (Rep.mono f1.ss h__law_names_here)) gA_nil) hp.1)) nl f1.fm w1 rfl ?turn ?fin)))
  case turn =>
    intro i x v ys S2 H2 hx s2 f2 w2 hI hv
    have hm : x ∈ l_all_rows _law_names_here := List.mem_of_getElem? hx
    have hp9 : ∀ y ∈ l_offs _law_lines _law_wishes, y.2 ∈ x ∧ y.1.length ≤ 100 := fun y hy => by
      obtain ⟨ln, h1, rfl⟩ := offs_mem hy
      obtain ⟨h2, h3⟩ := hp.2.2 ln h1
      exact ⟨h3 x hm, h2⟩
    have hs9 : Same S S2 := f1.ss.trans s2
    have hlen : ys.length ≤ most := by
      rw [hI]
      exact Nat.le_trans (List.length_filter_le _ _) (Nat.le_trans (by rw [List.length_take]; exact Nat.min_le_right _ _) (allrows_small hp.1))
    have hlen2 : ys.length < most := by
      have h4 : (l_all_rows _law_names_here).length ≤ 4 ^ 4 := Nat.le_trans (iterR_bd hp.1 _).1 (Nat.pow_le_pow_right (by decide) hp.1)
      have h5 : ys.length ≤ (l_all_rows _law_names_here).length := by
        rw [hI]
        exact Nat.le_trans (List.length_filter_le _ _) (by rw [List.length_take]; exact Nat.min_le_right _ _)
      exact Nat.lt_of_le_of_lt (Nat.le_trans h5 h4) (by decide)
    refine wss_one (ws_if (k := keepT _law_lines _law_wishes x) (gt_eq hr (ge_fmP n_s_law_kept_rows (defScope s_law_kept_rows) 5 6 (fun (y33 : (List Str × Str)) => (!(l_row_keeps x y33.1 y33.2))) (fun (y33 : (List Str × Str)) => (1 : Int)) rfl nd (gi_list (ge_call (dt (l_offs _law_lines _law_wishes)) c_law_offs hr (_law_lines, _law_wishes) (gA_cons (ge_name 1 rfl (Rep.mono hs9 h__law_lines)) (gA_cons (ge_name 2 rfl (Rep.mono hs9 h__law_wishes)) gA_nil)) hp.2.1)) (offs_small h__law_lines) (fun y33 va33 vb33 S33 hs33 hm33 ha33 hb33 _ _ _ _ _ => gts_one (gt_not (gt_val (ge_call (dt (l_row_keeps x y33.1 y33.2)) c_law_row_keeps hr (x, y33.1, y33.2) (gA_cons (ge_name 4 rfl (Rep.mono hs33 hv)) (gA_cons (ge_name 5 rfl ha33) (gA_cons (ge_name 6 rfl hb33) gA_nil))) (hp9 _ hm33))))) (fun y33 va33 vb33 S33 hs33 hm33 hp33 ha33 hb33 _ _ _ _ _ => ge_int)) ge_nil) f2.sh (fun hk S3 H3 f3 => ?_) (fun hk S3 H3 f3 => wss_nil ⟨S3, _, ys, f3.ss, f2.tp f3, w2.go f3, rfl, ?_⟩))
    · refine wss_one (ws_ownapp (w2.go f3) (ge_name 3 rfl (show (rRef l).p S3 (.ref l) from rfl)) (ge_name 4 rfl (Rep.mono f3.ss hv)) f3.sh hlen2 (fun S4 H4 H5 f4 e5 w4 => ⟨S4, _, _, f3.ss.trans f4.ss, ?_, w4, rfl, ?_⟩))
      · obtain ⟨o, rfl⟩ := e5
        exact ((f2.tp f3).tp f4).mutD (.inl nl) w4.no
      · rw [flt_take hx, if_pos hk, ← hI]
    · rw [flt_take hx, if_neg (by rw [hk]; exact Bool.false_ne_true), ← hI]
  case fin =>
    intro y ys S2 H2 s2 f2 w2 hI
    obtain ⟨acc, e1, e2⟩ := w2.ex
    rw [List.take_length] at hI
    have hz : ys.length ≤ most := by
      rw [hI]
      exact Nat.le_trans (List.length_filter_le _ _) (allrows_small hp.1)
    have h3 : Rep.rep (upd S2 l (.lst acc)) (.ref l) (l_kept_rows _law_names_here _law_lines _law_wishes) := cast_rep hI (own_done w2.no e2 hz)
    have f3 := (f2.keepD nl w2.no e1).fp
    exact wss_one (ws_ret f3 (ge_name 3 rfl h3) q)
theorem fields_bd {names : List Str} (h : names.length ≤ 8) : (l_fields names).length ≤ 256 ∧ ∀ s ∈ l_fields names, s.length ≤ 8 := by
  obtain ⟨a, b⟩ := stepF_bd names [[]] 0 (by simp)
  unfold l_fields
  refine ⟨?_, fun s hs => Nat.le_trans (b s (List.mem_of_mem_drop hs)) (by omega)⟩
  rw [List.length_drop, a]
  have h3 : (2 : Nat) ^ names.length ≤ 2 ^ 8 := Nat.pow_le_pow_right (by decide) h
  have h4 : [([] : List Str)].length = 1 := rfl
  rw [h4]
  have h5 : (2 : Nat) ^ 8 = 256 := by decide
  omega
theorem flt_le {α : Type} {p : α → Bool} {xs : List α} {n : Nat} (h : xs.length ≤ n) : (xs.filter p).length ≤ n := Nat.le_trans (List.length_filter_le _ _) h
def l_least_offs (_law_names_here : List Str) (_law_rows : List (List Str)) (_law_name : Str) : List (List Str) := (l_least (List.filter (fun (y37 : List Str) => (decide ((List.filter (fun (y38 : List Str) => (!(l_row_keeps y38 y37 _law_name))) _law_rows) = []))) (l_fields (List.filter (fun (y35 : Str) => (!decide (y35 = _law_name))) _law_names_here))))
abbrev n_s_law_least_offs : List Str := ["_law_names_here", "_law_rows", "_law_name", "_law_others", "_law_some", "_law_one", "_law_lot", "_law_row"]
theorem sc_law_least_offs : FnScope n_s_law_least_offs ["_law_names_here", "_law_rows", "_law_name"] (defScope s_law_least_offs) := ⟨rfl, rfl, rfl, by decide +kernel, rfl, by decide +kernel, by decide +kernel⟩
abbrev P_law_least_offs : Sp := Pr (List Str × List (List Str) × Str) (fun a => [dt a.1, dt a.2.1, dt a.2.2]) (fun a => dt (l_least_offs a.1 a.2.1 a.2.2)) (fun a => a.1.length ≤ 8 ∧ ∀ row ∈ a.2.1, a.2.2 ∈ row)
theorem w_law_least_offs (T : Top K mg) (c_law_fields : Has P w K mg base "_law_fields" ["_law_names_here"] 1 P_law_fields) (c_law_least : Has P w K mg base "_law_least" ["_law_some"] 2 P_law_least) (c_law_row_keeps : Has P w K mg base "_law_row_keeps" ["_law_row", "_law_lot", "_law_name"] 2 P_law_row_keeps) : Has P w K mg base "_law_least_offs" ["_law_names_here", "_law_rows", "_law_name"] 3 P_law_least_offs := by
  obtain ⟨fd, F, g⟩ := T.fn 54 rfl rfl rfl
  refine has_of F g (F.bindsN fun _ _ _ _ _ _ us hl => match us, hl with | [_, _, _], _ => rfl) sc_law_least_offs (fun _ => rfl) ?_
  have nd := sc_law_least_offs.nd
  intro cdv A0 outer s H E hr ⟨_law_names_here, _law_rows, _law_name⟩ S vs D hS h hp q hn
  obtain ⟨v__law_names_here, _, rfl, h__law_names_here, v__law_rows, _, rfl, h__law_rows, v__law_name, _, rfl, h__law_name, rfl⟩ := h
  exact wss_cons (ws_flt 3 n_s_law_least_offs (defScope s_law_least_offs) 5 (fun (y35 : Str) => (!decide (y35 = _law_name))) rfl nd (gi_list (ge_name 0 rfl h__law_names_here)) (rep_small h__law_names_here) (fun y35 v35 S35 hs35 hm35 hv35 _ _ _ _ _ => gts_one (gt_ne hr (ge_name 5 rfl hv35) (ge_name 2 rfl (Rep.mono hs35 h__law_name)))) (fun y35 v35 S35 hs35 hm35 hp35 hv35 _ _ _ _ _ => (ge_name 5 rfl hv35)) (Fp.refl hS).sh (fun v34 S34 H34 f34 h34 => wss_cons (ws_flt 4 n_s_law_least_offs (defScope s_law_least_offs) 6 (fun (y37 : List Str) => (decide ((List.filter (fun (y38 : List Str) => (!(l_row_keeps y38 y37 _law_name))) _law_rows) = []))) rfl nd (gi_list (ge_call (dt (l_fields (List.filter (fun (y35 : Str) => (!decide (y35 = _law_name))) _law_names_here))) c_law_fields hr (List.filter (fun (y35 : Str) => (!decide (y35 = _law_name))) _law_names_here) (gA_cons (ge_name 3 rfl h34) gA_nil) (flt_le hp.1))) (Nat.le_trans (fields_bd (flt_le hp.1)).1 (by decide)) (fun y37 v37 S37 hs37 hm37 hv37 _ _ _ _ _ => gts_one (gt_eq hr (ge_flt n_s_law_least_offs (relS _ (defScope s_law_least_offs)) 7 (fun (y38 : List Str) => (!(l_row_keeps y38 y37 _law_name))) rfl nd (gi_list (ge_name 1 rfl (Rep.mono hs37 (Rep.mono f34.ss h__law_rows)))) (rep_small (Rep.mono hs37 (Rep.mono f34.ss h__law_rows))) (fun y38 v38 S38 hs38 hm38 hv38 _ _ _ _ _ => gts_one (gt_not (gt_val (ge_call (dt (l_row_keeps y38 y37 _law_name)) c_law_row_keeps hr (y38, y37, _law_name) (gA_cons (ge_name 7 rfl hv38) (gA_cons (ge_name 6 rfl (Rep.mono hs38 hv37)) (gA_cons (ge_name 2 rfl (Rep.mono hs38 (Rep.mono hs37 (Rep.mono f34.ss h__law_name)))) gA_nil))) ⟨hp.2 _ hm38, Nat.le_trans ((fields_bd (flt_le hp.1)).2 _ hm37) (by decide)⟩)))) (fun y38 v38 S38 hs38 hm38 hp38 hv38 _ _ _ _ _ => (ge_name 7 rfl hv38))) ge_nil)) (fun y37 v37 S37 hs37 hm37 hp37 hv37 _ _ _ _ _ => (ge_name 6 rfl hv37)) ((Fp.refl hS).trans f34).sh (fun v36 S36 H36 f36 h36 => wss_one (ws_ret (((Fp.refl hS).trans f34).trans f36) (ge_call (dt (l_least (List.filter (fun (y37 : List Str) => (decide ((List.filter (fun (y38 : List Str) => (!(l_row_keeps y38 y37 _law_name))) _law_rows) = []))) (l_fields (List.filter (fun (y35 : Str) => (!decide (y35 = _law_name))) _law_names_here))))) c_law_least hr (List.filter (fun (y37 : List Str) => (decide ((List.filter (fun (y38 : List Str) => (!(l_row_keeps y38 y37 _law_name))) _law_rows) = []))) (l_fields (List.filter (fun (y35 : Str) => (!decide (y35 = _law_name))) _law_names_here))) (gA_cons (ge_name 4 rfl h36) gA_nil) trivial) q)))))
theorem lots_len (rows : List (List Str)) (n : Str) : (l_lots rows n).length ≤ rows.length := by
  unfold l_lots l_least
  refine Nat.le_trans (List.length_filter_le _ _) (Nat.le_trans (dd_len _ []) ?_)
  rw [List.length_nil, srt_len, List.length_map]
  omega
theorem lo_len {names : List Str} {rows : List (List Str)} {n : Str} (h : names.length ≤ 4) : (l_least_offs names rows n).length ≤ 16 := by
  unfold l_least_offs l_least
  refine Nat.le_trans (List.length_filter_le _ _) (Nat.le_trans (dd_len _ []) ?_)
  rw [List.length_nil, srt_len, Nat.zero_add]
  refine Nat.le_trans (List.length_filter_le _ _) ?_
  obtain ⟨a, b⟩ := stepF_bd (List.filter (fun y => !decide (y = n)) names) [[]] 0 (by simp)
  unfold l_fields
  rw [List.length_drop, a]
  have h3 : (2 : Nat) ^ (List.filter (fun y => !decide (y = n)) names).length ≤ 2 ^ 4 := Nat.pow_le_pow_right (by decide) (flt_le h)
  have h4 : [([] : List Str)].length = 1 := rfl
  rw [h4]
  have h5 : (2 : Nat) ^ 4 = 16 := by decide
  omega
def callLn (_law_names_here : List Str) (x : Str) (z : List Str) : Ln := (⟨("call" : Str), (List.filter (fun (y39 : Str) => (!decide (y39 ∈ z))) _law_names_here), x⟩ : Ln)
def stepL (_law_names_here : List Str) (_law_rows : List (List Str)) (acc : List Ln) (x : Str) : List Ln := (acc ++ (l_lots _law_rows x).map (callLn _law_names_here x)) ++ (List.map (fun (y40 : List Str) => (⟨("off" : Str), y40, x⟩ : Ln)) (l_least_offs _law_names_here _law_rows x))
def l_own_lines (names : List Str) (rows : List (List Str)) : List Ln := srt (names.foldl (stepL names rows) [])
theorem stepL_len {names : List Str} {rows : List (List Str)} (h : names.length ≤ 4) (hr : rows.length ≤ 20) (ns : List Str) : ∀ acc : List Ln, (ns.foldl (stepL names rows) acc).length ≤ acc.length + ns.length * 36 := by
  induction ns with
  | nil => intro acc; simp
  | cons n ns ih =>
    intro acc
    refine Nat.le_trans (ih _) ?_
    have h1 := lots_len rows n
    have h2 := lo_len (rows := rows) (n := n) h
    have h3 : (stepL names rows acc n).length ≤ acc.length + 36 := by
      unfold stepL
      rw [List.length_append, List.length_append, List.length_map, List.length_map]
      omega
    rw [List.length_cons, Nat.succ_mul]
    omega
abbrev n_s_law_own_lines : List Str := ["_law_names_here", "_law_rows", "_law_found", "_law_name", "_law_lot", "_law_one"]
theorem sc_law_own_lines : FnScope n_s_law_own_lines ["_law_names_here", "_law_rows"] (defScope s_law_own_lines) := ⟨rfl, rfl, rfl, by decide +kernel, rfl, by decide +kernel, by decide +kernel⟩
abbrev P_law_own_lines : Sp := Pr (List Str × List (List Str)) (fun a => [dt a.1, dt a.2]) (fun a => dt (l_own_lines a.1 a.2)) (fun a => a.1.length ≤ 4 ∧ a.2.length ≤ 20 ∧ ∀ n ∈ a.1, ∀ row ∈ a.2, n ∈ row)
theorem w_law_own_lines (T : Top K mg) (c_law_lots : Has P w K mg base "_law_lots" ["_law_rows", "_law_name"] 3 P_law_lots) (c_law_least_offs : Has P w K mg base "_law_least_offs" ["_law_names_here", "_law_rows", "_law_name"] 3 P_law_least_offs) : Has P w K mg base "_law_own_lines" ["_law_names_here", "_law_rows"] 5 P_law_own_lines := by
  obtain ⟨fd, F, g⟩ := T.fn 55 rfl rfl rfl
  refine has_of F g (F.bindsN fun _ _ _ _ _ _ us hl => match us, hl with | [_, _], _ => rfl) sc_law_own_lines (fun _ => rfl) ?_
  have nd := sc_law_own_lines.nd
  have b_sorted := T.free 64
  intro cdv A0 outer s H E hr ⟨_law_names_here, _law_rows⟩ S vs D hS h hp q hn
  obtain ⟨v__law_names_here, _, rfl, h__law_names_here, v__law_rows, _, rfl, h__law_rows, rfl⟩ := h
  have hnm : _law_names_here.length ≤ 4 := hp.1
  refine wss_cons (ws_own (γ := Ln) (i := 2) nd hS (fun l1 H1 nl1 f1 _ w1 => wss_cons (ws_for PassesOwn.never rfl (gi_list (ge_name 0 rfl (Rep.mono f1.ss h__law_names_here))) (pg_name (i := 3) nd rfl (by first | exact Or.inl rfl | exact Or.inr rfl)) f1.sh
    (fun S2 H2 i σ' S' H' => Same S2 S' ∧ Fm NoM S H S' H' ∧ ∃ (l : Addr) (y1 y2 : Option V) (ys : List Ln), H l = none ∧ Own S' H' l ys ∧ σ' = [some v__law_names_here, some v__law_rows, some (.ref l), y1, y2, none] ∧ ys = (_law_names_here.take i).foldl (stepL _law_names_here _law_rows) [])
    (fun S2 H2 f2 => ⟨Same.refl _, (f1.trans f2).fm, l1, none, none, [], nl1, w1.go f2, rfl, rfl⟩) (fun S2 H2 f2 i σ' S' H' w => ⟨w.1, w.2.1.sh⟩) ?turn ?fin)))
  case turn =>
    rintro S2 H2 f2 i x v σ' S3 H3 S4 H4 hx ⟨s3, f3, l, y1, y2, ys, nl, w3, rfl, hI⟩ fy hv
    have hxm : x ∈ _law_names_here := List.mem_of_getElem? hx
    have hi : i < 4 := Nat.lt_of_lt_of_le (List.getElem?_eq_some_iff.mp hx).1 hp.1
    have hlen : ys.length ≤ 4 * 36 := by
      have h1 := stepL_len hp.1 hp.2.1 (_law_names_here.take i) []
      rw [← hI, List.length_take, List.length_nil] at h1
      have h2 : min i _law_names_here.length ≤ 4 := by omega
      omega
    have hs5 : Same S S4 := ((f1.ss.trans f2.ss).trans s3).trans fy.ss
    have hll := lots_len _law_rows x
    have hrl : _law_rows.length ≤ 20 := hp.2.1
    refine wss_cons (ws_forA (M := NoM) 4 l (fun y => [some v__law_names_here, some v__law_rows, some (.ref l), some v, y, none]) (fun j zs => zs = ys ++ ((l_lots _law_rows x).take j).map (callLn _law_names_here x)) PassesOwn.never rfl nd (fun z => z)
      (gi_list (ge_call (dt (l_lots _law_rows x)) c_law_lots hr (_law_rows, x) (gA_cons (ge_name 1 rfl (Rep.mono hs5 h__law_rows)) (gA_cons (ge_name 3 rfl hv) gA_nil)) (hp.2.2 x hxm))) nl (f3.tp fy) (w3.go fy) (by simp) ?turn2 ?fin2)
    case turn2 =>
      intro j z vz zs S5 H5 hz5 s5 f5 w5 hJ hz
      have hs6 : Same S S5 := hs5.trans s5
      have hs7 : Same S4 S5 := s5
      have hzl : zs.length < most := by
        rw [hJ, List.length_append, List.length_map, List.length_take]
        show _ < 4000
        omega
      refine wss_one (ws_ownapp (y := callLn _law_names_here x z) w5 (ge_name 2 rfl (show (rRef l).p S5 (.ref l) from rfl)) (ge_ln (gA_cons ge_str (gA_cons (ge_flt n_s_law_own_lines (defScope s_law_own_lines) 5 (fun (y39 : Str) => (!decide (y39 ∈ z))) rfl nd (gi_list (ge_name 0 rfl (Rep.mono hs6 h__law_names_here))) (rep_small (Rep.mono hs6 h__law_names_here)) (fun y39 v39 S39 hs39 hm39 hv39 _ _ _ _ _ => gts_one (gt_ni hr (ge_name 5 rfl hv39) (ge_name 4 rfl (Rep.mono hs39 hz)))) (fun y39 v39 S39 hs39 hm39 hp39 hv39 _ _ _ _ _ => (ge_name 5 rfl hv39))) (gA_cons (ge_name 3 rfl (Rep.mono hs7 hv)) gA_nil)))) f5.sh hzl (fun S6 H6 H7 f6 e7 w6 => ⟨S6, _, _, f6.ss, ?_, w6, rfl, ?_⟩))
      · obtain ⟨o, rfl⟩ := e7
        exact (f5.tp f6).mutD (.inl nl) w6.no
      · rw [take_snoc hz5, List.map_append, hJ, List.append_assoc]; rfl
    case fin2 =>
      intro y zs S5 H5 s5 f5 w5 hJ
      rw [List.take_length] at hJ
      have hs6 : Same S S5 := hs5.trans s5
      have hs7 : Same S4 S5 := s5
      refine wss_one (ws_owncat 2 w5 rfl (ge_map n_s_law_own_lines (defScope s_law_own_lines) 4 (fun (y40 : List Str) => (⟨("off" : Str), y40, x⟩ : Ln)) rfl nd (gi_list (ge_call (dt (l_least_offs _law_names_here _law_rows x)) c_law_least_offs hr (_law_names_here, _law_rows, x) (gA_cons (ge_name 0 rfl (Rep.mono hs6 h__law_names_here)) (gA_cons (ge_name 1 rfl (Rep.mono hs6 h__law_rows)) (gA_cons (ge_name 3 rfl (Rep.mono hs7 hv)) gA_nil))) ⟨Nat.le_trans hp.1 (by decide), hp.2.2 x hxm⟩)) (Nat.le_trans (lo_len hp.1) (by decide)) (fun y40 v40 S40 hs40 hm40 hv40 _ _ _ _ _ => (ge_ln (gA_cons ge_str (gA_cons (ge_name 4 rfl hv40) (gA_cons (ge_name 3 rfl (Rep.mono hs40 (Rep.mono hs7 hv))) gA_nil)))))) f5.sh ?_ nd (fun l6 S6 H6 f6 n6 w6 => ?_))
      · have h2 := lo_len (names := _law_names_here) (rows := _law_rows) (n := x) hp.1
        rw [List.length_map, hJ, List.length_append, List.length_map]
        show _ ≤ 4000
        omega
      · have nH : H l6 = none := by
          cases e : H l6 with
          | none => rfl
          | some o => exact absurd n6 (f5.al l6 (by rw [e]; exact fun z => nomatch z))
        exact ⟨S6, (s3.trans fy.ss).trans (s5.trans f6.ss), f5.tp f6, l6, some v, y, _, nH, w6, rfl, by rw [take_snoc hx, List.foldl_append, ← hI, hJ]; rfl⟩
  case fin =>
    rintro S2 H2 f2 σ' S3 H3 ⟨s3, f3, l, y1, y2, ys, nl, w3, rfl, hI⟩
    obtain ⟨acc, e1, e2⟩ := w3.ex
    rw [List.take_length] at hI
    have hz : ys.length ≤ most := by
      have h1 := stepL_len hp.1 hp.2.1 _law_names_here []
      rw [← hI, List.length_nil] at h1
      show _ ≤ 4000
      omega
    have h3 : Rep.rep (upd S3 l (.lst acc)) (.ref l) ys := own_done w3.no e2 hz
    have f4 := (f3.keepD nl w3.no e1).fp
    exact wss_one (ws_ret f4 (ge_sorted hr b_sorted (ge_name 2 rfl h3)) (fun v S' H' f h => q v S' H' f (cast_rep (by rw [hI]; rfl) h)))
end
end Cp
namespace Cp
open PySem PySem.Spec PyProof.Rows L2
/-! ### objects -/
def rAny : Rl := ⟨fun _ _ => True, fun _ _ => trivial⟩
/-- an instance with such fields -/
def rIns (C : Addr) (fs : List (Str × Rl)) : Rl := ⟨fun S v => ∃ p dx ws, v = .ref p ∧ S p = some (.ins C dx ((fs.map (·.1)).zip ws)) ∧ All2 S (fs.map (·.2)) ws, fun e h => by
  obtain ⟨p, dx, ws, rfl, h1, h2⟩ := h
  exact ⟨p, dx, ws, rfl, e _ _ h1, h2.mono e⟩⟩
noncomputable instance (S H : Hp) (a : Addr) : Decidable (S a = none ∧ H a ≠ none) := Classical.propDecidable _
/-- the data part cut to what was data or is new -/
noncomputable def cutF (S H S' : Hp) : Hp := fun a => if S a = none ∧ H a ≠ none then none else S' a
theorem fp_cut {S T H S' H' : Hp} (f : Fp T H S' H') (s : Same S T) : Fp S H (cutF S H S') H' := by
  refine ⟨fun a u e => ?_, fun a u e => ?_, f.hh, fun a e z => ?_⟩
  · unfold cutF
    rw [if_neg fun z => by rw [e] at z; exact nomatch z.1]
    exact f.ss a u (s a u e)
  · unfold cutF at e
    by_cases c : S a = none ∧ H a ≠ none
    · rw [if_pos c] at e; cases e
    · rw [if_neg c] at e; exact f.sh a u e
  · unfold cutF; rw [if_pos ⟨e, z⟩]
section
variable {X : Cx} {σ : L2.St} {S H S0 H0 S' H' : Hp} {M : Addr → Prop} {e o : Expr} {es : List Expr} {body els : List Stmt} {pos pos' apos : Pos} {D : Ends} {r : Rl} {k : Nat}
/-- a test that sees more than the data -/
theorem ws_ifX {c : Expr} {kk : Bool} (T : Hp) (s1 : Same S T) (s2 : Same T H) (g : GT X c σ T kk) (h1 : kk = true → ∀ S' H', Fp S H S' H' → wSs X body D σ H') (h2 : kk = false → ∀ S' H', Fp S H S' H' → wSs X els D σ H') : wS X (.If c body els pos) D σ H :=
  ws_if g s2 (fun hk S' H' f => h1 hk _ H' (fp_cut f s1)) fun hk S' H' f => h2 hk _ H' (fp_cut f s1)
/-- e.f of an instance that is data -/
theorem go_fld {C : Addr} {fs : List (Str × Rl)} {f : Str} (te : TE) (hc : Cls X.K C) (hn : NoAttr X.K C f) (h : Go te σ S (rIns C fs)) (hl : ∀ S ws, All2 S (fs.map (·.2)) ws → ∃ v, ((fs.map (·.1)).zip ws).lookup f = some v ∧ r.p S v) : Go (tFld X.K te f) σ S r := fun S1 H1 c d Q q => h S1 H1 c d _ fun v S2 H2 f2 hv => by
  obtain ⟨p, dx, ws, rfl, h1, h2⟩ := hv
  obtain ⟨v, h3, h4⟩ := hl S2 ws h2
  exact ⟨p, C, dx, _, v, rfl, f2.sh _ _ h1, hc, hn, h3, q v S2 H2 f2 h4⟩
theorem ge_fld {C : Addr} {fs : List (Str × Rl)} {f : Str} (hc : Cls X.K C) (hn : NoAttr X.K C f) (h : GE X e σ S (rIns C fs)) (hl : ∀ S ws, All2 S (fs.map (·.2)) ws → ∃ v, ((fs.map (·.1)).zip ws).lookup f = some v ∧ r.p S v)
    (hb : attributeBase e f X.env (eval e X.env) = eval e X.env := by rfl) : GE X (.Attribute e f pos) σ S r := ge_of (pe_fld wE.pe hb) (go_fld _ hc hn h hl)
/-- x.f = e, the instance not among the data -/
theorem ws_fld {C x dx : Addr} {fs : List (Str × V)} {f : Str} (hc : Cls X.K C) (hn : NoAttr X.K C f) (hx : H x = some (.ins C dx fs)) (nx : S x = none) (ho : GE X o σ S (rRef x)) (g : GE X e σ S r) (hS : Same S H) (hl : fs.length < 1000)
    (k : ∀ v S' H', Fp S H S' H' → S' x = none → r.p S' v → D.nx σ (upd H' x (.ins C dx (putF f v fs)))) (hs : swapsWith e (some (.Attribute o f pos')) pos.line X.env = pure false := by rfl) : wS X (.Assign [.Attribute o f pos'] e pos) D σ H :=
  of_ps (ps_fld wE.pe wE.pe hs) (go_now g hS fun v S1 H1 f1 hv => ho S1 H1 f1.ss f1.sh _ fun w S2 H2 f2 hw => by
    have hw : w = .ref x := hw
    subst hw
    have e1 := f1.hh _ _ hx
    have n1 := f1.fr x nx (by rw [hx]; exact fun z => nomatch z)
    exact ⟨x, C, dx, fs, rfl, f2.hh _ _ e1, hc, hn, hl, k v S2 H2 (f1.trans f2) (f2.fr x n1 (by rw [e1]; exact fun z => nomatch z)) (r.m f2.ss hv)⟩)
end
/-! ### methods, classes -/
structure HasM (P : Program) (w : World) (K : PySem.W.Frag) (mg : Str → Option Value) (base : Heap) (C : Addr) (m : Str) (ps : List Str) (k : Nat) (sp : Sp) : Prop where
  ex : ∃ f fd, Meth K C m f ∧ Binds K fd ps [] ∧ FnOk P w K mg base CX0 k f fd ps sp
/-- what an __init__ promises: a new instance -/
def PrI (C : Addr) (A : Type) (arg : A → List Rl) (res : A → Rl) (pre : A → Prop) : Sp := fun vs H Q _ => ∃ a x dx Hb S us, vs = .ref x :: us ∧ Hb x = none ∧ Hb dx = none ∧ dx ≠ x ∧ H = upd (upd Hb dx (.own x)) x (.ins C dx []) ∧ Same S Hb ∧ All2 S (arg a) us ∧ pre a ∧
  ∀ S' H', Fp S Hb S' H' → (res a).p S' (.ref x) → Q .non H'
structure HasC (P : Program) (w : World) (K : PySem.W.Frag) (mg : Str → Option Value) (base : Heap) (x : Str) (C : Addr) (ps : List Str) (k : Nat) (sp : Sp) : Prop where
  ex : ∃ f fd, mg x = some (.ref C) ∧ Mk K C f ∧ Binds K fd ps [] ∧ FnOk P w K mg base CX0 k f fd ps sp
section
variable {X : Cx} {σ : L2.St} {S : Hp} {e o : Expr} {es : List Expr} {p pos apos : Pos} {x m : Str} {ps : List Str} {k k' : Nat} {A : Type} {arg : A → List Rl} {res : A → Rl} {pre : A → Prop} {C : Addr}
theorem ge_meth0 {pl : Sem Bool} {fs : List (Str × Rl)} (r : Rl) (F : HasM X.prog X.w X.K X.mg X.base C m ps k (Pr A arg res pre)) (hc : Cls X.K C) (hr : Room k' X.A) (a : A) (ho : GE X o σ S (rIns C fs)) (ha : arg a = [rIns C fs]) (hp : pre a) (hm : ∀ ws : List V, ((fs.map (·.1)).zip ws).lookup m = none) (hres : res a = r := by rfl) (hk : k ≤ k' := by decide)
    (ht : eval (.Call (.Attribute o m apos) [] [] pos) X.env = (do
      let ov ← eval o X.env
      standAt apos.atName
      let (f, first) ← holding [ov] (getMethod ov m pl)
      callWith pos f first (backTo pos (starEach [] X.env)) (backToKw pos (keywordEach [] X.env))) := by rfl) : GE X (.Call (.Attribute o m apos) [] [] pos) σ S r := by
  subst hres
  obtain ⟨f, fd, hM, hb, G⟩ := F.ex
  refine ge_of (pe_meth0 wE.pe hc hM G (hr.mono hk) hb .nil pass0 ht) fun S1 H1 c d Q q => ho S1 H1 c d _ fun v S2 H2 f2 hv => ?_
  obtain ⟨p, dx, ws, rfl, h1, h2⟩ := id hv
  exact ⟨p, dx, _, rfl, f2.sh _ _ h1, hm ws, a, S2, f2.sh, by rw [ha]; exact ⟨_, _, rfl, hv, rfl⟩, hp, fun v S' H' f3 h => q v S' H' (f2.trans f3) h⟩
theorem ge_make (r : Rl) (F : HasC X.prog X.w X.K X.mg X.base x C ps k (PrI C A arg res pre)) (hr : Room k' X.A) (a : A) (ha : GA X (e :: es) σ S (arg a)) (hp : pre a) (hres : res a = r := by rfl) (hk : k + 1 ≤ k' := by decide) (hg : Gl X x := by rfl) (hdb : (x == ("__debug__" : Str)) = false := by decide)
    (he : starEach (e :: es) X.env = (false, eval e X.env) :: starEach es X.env := by rfl) (hpl : (backTo pos (starEach es X.env)).any (·.1) = false := by rfl) : GE X (.Call (.Name x p) (e :: es) [] pos) σ S r := by
  subst hres
  obtain ⟨f, fd, hm, M, hb, G⟩ := F.ex
  obtain ⟨t, pa, ga⟩ := ha
  refine ge_of (pe_make M G (hr.mono hk) hg hm hb .nil pass0 pa hdb he hpl) fun S1 H1 c d Q q => ga S1 H1 c d _ fun vs S2 H2 f2 hv x dx nx ndx nex => ?_
  rw [List.append_nil]
  exact ⟨a, x, dx, H2, S2, vs, rfl, nx, ndx, nex, rfl, f2.sh, hv, hp, fun S' H' f3 h => ⟨rfl, q _ S' H' (f2.trans f3) h⟩⟩
end
section
variable {P : Program} {w : World} {K : PySem.W.Frag} {mg : Str → Option Value} {base : Heap} {x qual : Str} {st : Stmt} {f C : Addr} {fd : FuncData} {N ps : List Str} {k : Nat} {A : Type} {arg : A → List Rl} {res : A → Rl} {pre : A → Prop} {m : Str}
theorem hasM_of (F : FunD K x qual (defArgs st) (defBody st) (defScope st) [] [] f fd) (hM : Meth K C m f) (hb : Binds K fd ps []) (sc : FnScope N ps (defScope st)) (hl : ∀ a, (arg a).length = ps.length)
    (body : ∀ (cdv : Value) (A0 : Around) (outer : List Env) (s : Shared) (H : Hp) (E : XK), Room k (A0.deeper (envOfC qual (defScope st) s.heap.objs.size f cdv)) →
      ∀ a S vs (D : Ends), Same S H → All2 S (arg a) vs → pre a → (∀ v S' H', Fp S H S' H' → (res a).p S' v → D.rt v H') →
      wSs (cxOf CX0 P w K mg base N qual (defScope st) f cdv A0 outer s H E).nox (defBody st) D (start N vs) H) : HasM P w K mg base C m ps (k + 1) (Pr A arg res pre) :=
  ⟨f, fd, hM, hb, F.ok sc (fun vs H Q E ⟨a, S, _, h, _⟩ => by rw [all2_len h, hl]) fun cdv A0 outer s H vs Q E hr ⟨a, S, hS, h, hp, q⟩ =>
    ⟨_, (wSs.ps (X := (cxOf CX0 P w K mg base N qual (defScope st) f cdv A0 outer s H E).nox)).nox, body cdv A0 outer s H E hr a S vs { nx := fun _ H' => Q .non H', rt := Q } hS h hp q⟩⟩
theorem hasC_of (F : FunD K x qual (defArgs st) (defBody st) (defScope st) [] [] f fd) (hg : mg m = some (.ref C)) (hM : Mk K C f) (hb : Binds K fd ps []) (sc : FnScope N ps (defScope st)) (hl : ∀ a, (arg a).length + 1 = ps.length)
    (body : ∀ (cdv : Value) (A0 : Around) (outer : List Env) (s : Shared) (H : Hp) (E : XK), Room k (A0.deeper (envOfC qual (defScope st) s.heap.objs.size f cdv)) →
      ∀ a x dx Hb S us (D : Ends), Hb x = none → Hb dx = none → dx ≠ x → H = upd (upd Hb dx (.own x)) x (.ins C dx []) → Same S Hb → All2 S (arg a) us → pre a → (∀ σ' S' H', Fp S Hb S' H' → (res a).p S' (.ref x) → D.nx σ' H') →
      wSs (cxOf CX0 P w K mg base N qual (defScope st) f cdv A0 outer s H E).nox (defBody st) D (start N (.ref x :: us)) H) : HasC P w K mg base m C ps (k + 1) (PrI C A arg res pre) :=
  ⟨f, fd, hg, hM, hb, F.ok sc (fun vs H Q E ⟨a, x, dx, Hb, S, us, e, _, _, _, _, _, h, _⟩ => by rw [e, List.length_cons, all2_len h, hl]) fun cdv A0 outer s H vs Q E hr ⟨a, x, dx, Hb, S, us, e, n1, n2, n3, eH, hS, h, hp, q⟩ => by
    subst e
    exact ⟨_, (wSs.ps (X := (cxOf CX0 P w K mg base N qual (defScope st) f cdv A0 outer s H E).nox)).nox, body cdv A0 outer s H E hr a x dx Hb S us { nx := fun _ H' => Q .non H', rt := Q } n1 n2 n3 eH hS h hp fun _ S' H' f h => q S' H' f h⟩⟩
end
/-- the instance as it comes, over the heap ahead -/
theorem made_fp {S Hb : Hp} {x dx C : Addr} (hS : Same S Hb) (n1 : Hb x = none) (n2 : Hb dx = none) (n3 : dx ≠ x) : Fp S Hb S (upd (upd Hb dx (.own x)) x (.ins C dx [])) :=
  (Fp.newH hS n2).trans (Fp.newH (Fp.newH hS n2).sh (by rw [upd_ne (Ne.symm n3)]; exact n1))
/-! ### comprehensions whose items nobody asks for -/
section
variable {X : Cx} {σ : L2.St} {S : Hp} {elt iter tg : Expr} {scope : Scope} {own : List (Str × Nat)} {pos : Pos} {α : Type} [Rep α] {xs : List α} {g : TG} {comps : α → List Rl} {τ : List V → L2.St}
theorem go_lcAny {wi : TI} (hz : xs.length ≤ most) (hi : ∀ S1 H1, Same S S1 → Same S1 H1 → ∀ R : It → Hp → Prop, (∀ J S2 H2, Fp S1 H1 S2 H2 → Src J S2 xs → R J H2) → wi σ H1 R)
    (ht : Tgt g (wipe σ (own.map (·.2))) comps τ) (hw : ∀ ws, wipe (τ ws) (own.map (·.2)) = wipe σ (own.map (·.2)))
    (hf : ∀ x ws S1, Same S S1 → x ∈ xs → All2 S1 (comps x) ws → ∀ s H C cl fp, GE (BX X scope s H C cl fp) elt (τ ws) S1 rAny) :
    Go (tLc wi g tYes (bE X scope elt) (own.map (·.2))) σ S rAny := fun S1 H1 c d Q q => by
  refine hi S1 H1 c d _ fun J S2 H2 f2 src D hD => ?_
  refine ⟨fun i m H => m = xs.length - i ∧ i ≤ xs.length ∧ ∃ S' acc, Fp S2 H2 S' H ∧ S' D = none ∧ H D = some (.lst acc) ∧ acc.length ≤ i, ⟨xs.length, rfl, Nat.zero_le _, S2, [], Fp.newH f2.sh hD, same_none f2.sh hD, upd_same, Nat.le_refl _⟩, ?_⟩
  rintro i m H ⟨rfl, hi, S', acc, fi, nD, eD, hr⟩
  by_cases hlt : i < xs.length
  · refine .inr ⟨src.go i S' H fi.ss fi.sh hlt, fun H => i + 1 ≤ xs.length ∧ ∃ S' acc, Fp S2 H2 S' H ∧ S' D = none ∧ H D = some (.lst acc) ∧ acc.length ≤ i + 1, fun H' q' => ⟨xs.length - (i + 1), by omega, rfl, q'⟩, fun v H' y => ?_⟩
    obtain ⟨S'', x, fy, hx, hv⟩ := src.yld i S' H v H' fi.ss fi.sh hlt y
    have nD2 : S'' D = none := fy.fr D nD (by rw [eD]; exact fun z => nomatch z)
    refine ht x v S'' H' hv fy.sh _ fun ws hws => ⟨hw ws, ?_⟩
    dsimp only [tYes]
    try rw [if_pos rfl]
    refine fun s H0 C cl fp => hf x ws S'' (((c.trans f2.ss).trans fi.ss).trans fy.ss) (List.mem_of_getElem? hx) hws s H0 C cl fp S'' H' (Same.refl _) fy.sh _ fun y S4 H4 f4 _ => ?_
    have e3 : H' D = some (.lst acc) := fy.hh D _ eD
    have nD4 : S4 D = none := f4.fr D nD2 (by rw [e3]; exact fun z => nomatch z)
    have hz' : xs.length ≤ 4000 := hz
    exact ⟨acc, f4.hh D _ e3, small_lt (show acc.length ≤ 4000 by omega), by omega, S4, acc ++ [y], ((fi.trans fy).trans f4).mutD hD nD4, nD4, upd_same, by rw [List.length_append, List.length_singleton]; omega⟩
  · have e : i = xs.length := by omega
    subst e
    exact .inl ⟨src.stop S' H fi.ss fi.sh, q _ S' H (f2.trans fi) trivial⟩
theorem ge_mapAny {x : Str} {tpos : Pos} (N : List Str) (sc : Scope) (j : Nat) (hc : X.calm = true) (hN : X.N.Nodup) (hi : GI X (.Name x tpos) iter σ S xs) (hz : xs.length ≤ most)
    (hf : ∀ y v S1, Same S S1 → y ∈ xs → Rep.rep S1 v y → ∀ s H C cl fp, GE (BX X scope s H C cl fp) elt ((wipe σ [j]).set j (some v)) S1 rAny)
    (hg : ∀ s H C cl fp, PG (BX X scope s H C cl fp) (.Name x tpos) (gName j) := by first | exact fun _ _ _ _ _ => pg_name (by assumption) rfl (Or.inl rfl) | exact fun _ _ _ _ _ => pg_name (by assumption) rfl (Or.inr rfl)) (hw : ∀ ws : List V, wipe ((wipe σ [j]).set j ws.head?) [j] = wipe σ [j] := by intro _; rfl)
    (hs : ∀ x, foldedSetIterable iter X.env x = pure x := by intro _; rfl) (eN : X.N = N := by rfl) (eS : X.env.scope = sc := by rfl) (ok : blkC N sc scope [(x, j)] = true := by decide +kernel) :
    GE X (.ListComp elt [⟨.Name x tpos, iter, [], 0⟩] scope pos) σ S rAny :=
  let ⟨_, pi, gi⟩ := hi
  ge_of (pe_lc hc hN pi (blkOk_by (own := [(x, j)]) (by rw [eN, eS]; exact ok)) hg (fun _ _ _ _ _ => pts_nil) pe_b hs) (go_lcAny (own := [(x, j)]) hz gi (tgt_name j) hw fun y ws S1 a b c s H C cl fp => by obtain ⟨v, _, rfl, hv, rfl⟩ := c; exact hf y v S1 a b hv s H C cl fp)
/-- dict of pairs (text, int): nobody asks what it holds -/
theorem boot_dict' : bootBuiltins "dict" = some (.type "dict") := by decide +kernel
theorem reps_pairs {K0 : PySem.W.Frag} {H : Hp} : ∀ {vs : List V} {ps : List (Str × Int)}, Reps H vs ps → ∃ as : List Addr, vs = as.map V.ref ∧ Paired (fun p (kv : Key × V) => SqT K0 H p [kV kv.1, kv.2]) as (ps.map fun q => ((Sum.inr q.1 : Key), V.int q.2))
  | _, _, .nil => ⟨[], rfl, .nil⟩
  | _, _, .cons r t => by
    obtain ⟨as, e, h⟩ := reps_pairs t
    obtain ⟨p, v1, v2, rfl, hp, ⟨rfl, _⟩, h2⟩ := r
    have h2 : v2 = V.int _ := h2
    subst h2
    exact ⟨p :: as, by rw [List.map_cons, e], .cons (SqT.of hp) h⟩
theorem paired_mono {K0 : PySem.W.Frag} {H H' : Hp} (e : Same H H') : ∀ {as : List Addr} {kvs : List (Key × V)}, Paired (fun p (kv : Key × V) => SqT K0 H p [kV kv.1, kv.2]) as kvs → Paired (fun p (kv : Key × V) => SqT K0 H' p [kV kv.1, kv.2]) as kvs
  | _, _, .nil => .nil
  | _, _, .cons r t => .cons (by
      rcases r with (r | ⟨o, r⟩) | r
      · exact .inl (.inl (e _ _ r))
      · exact .inl (.inr ⟨o, e _ _ r⟩)
      · exact .inr r) (paired_mono e t)
theorem ge_dictAny {e : Expr} {ps : List (Str × Int)} {p : Pos} (hm : X.mg "dict" = none) (h : GE X e σ S (dt ps)) (hc : X.calm = true := by rfl) (hg : Gl X "dict" := by rfl) (hs : starEach [e] X.env = (false, eval e X.env) :: starEach [] X.env := by rfl) (hpl : (backTo pos (starEach [] X.env)).any (·.1) = false := by rfl) :
    GE X (.Call (.Name "dict" p) [e] [] pos) σ S rAny :=
  ge_of (pe_callTy (call_dictP hc) hg hm boot_dict' (pa_cons wE.pe pa_nil hs) (by decide) (by decide) hs hpl) (go_cb (ga_cons h ga_nil) fun S1 H1 vs _ d hv Q q => by
    obtain ⟨v, _, rfl, ⟨a, ws, rfl, ha, hl, hr⟩, rfl⟩ := hv
    obtain ⟨as, e, h⟩ := reps_pairs (K0 := X.K) hr
    subst e
    exact ⟨a, as, _, rfl, SqL.of (d _ _ ha), paired_mono d h, fun l hn => q _ S1 _ (Fp.newH d hn) trivial⟩)
end
end Cp
namespace Cp
open PySem PySem.Spec PyProof.Rows L2
/-! ### the two classes -/
abbrev cP (K : PySem.W.Frag) : Addr := He.ga K "Panel"
abbrev cB (K : PySem.W.Frag) : Addr := He.ga K "Book"
abbrev pF (names : List Str) (rows : List (List Str)) : List (Str × Rl) := [("names", dt names), ("orders", dt rows), ("spots", rAny)]
abbrev bF (names : List Str) (told : List Ln) : List (Str × Rl) := [("names", dt names), ("told", dt told)]
def pan (K : PySem.W.Frag) (names : List Str) (rows : List (List Str)) : Rl := rIns (cP K) (pF names rows)
def bok (K : PySem.W.Frag) (names : List Str) (told : List Ln) : Rl := rIns (cB K) (bF names told)
section
variable {K : PySem.W.Frag} {mg : Str → Option Value}
theorem Top.clsP (T : Top K mg) : Cls K (cP K) := He.cls_ok (T.d.fact 75 rfl)
theorem Top.mkP (T : Top K mg) : Mk K (cP K) (He.ma K (cP K) "__init__") := He.mkr_ok (T.d.fact 76 rfl)
theorem Top.clsB (T : Top K mg) : Cls K (cB K) := He.cls_ok (T.d.fact 78 rfl)
theorem Top.mkB (T : Top K mg) : Mk K (cB K) (He.ma K (cB K) "__init__") := He.mkr_ok (T.d.fact 79 rfl)
theorem Top.mP2 (T : Top K mg) : Meth K (cP K) "entries" (He.ma K (cP K) "entries") := He.meth_ok (T.d.fact 82 rfl)
theorem Top.mP3 (T : Top K mg) : Meth K (cP K) "rows" (He.ma K (cP K) "rows") := He.meth_ok (T.d.fact 83 rfl)
theorem Top.mB2 (T : Top K mg) : Meth K (cB K) "entries" (He.ma K (cB K) "entries") := He.meth_ok (T.d.fact 85 rfl)
theorem Top.mB3 (T : Top K mg) : Meth K (cB K) "lines" (He.ma K (cB K) "lines") := He.meth_ok (T.d.fact 86 rfl)
theorem Top.mB4 (T : Top K mg) : Meth K (cB K) "__eq__" (He.ma K (cB K) "__eq__") := He.meth_ok (T.d.fact 87 rfl)
theorem Top.nP1 (T : Top K mg) : NoAttr K (cP K) "names" := He.noat_ok (T.d.fact 88 rfl)
theorem Top.nP2 (T : Top K mg) : NoAttr K (cP K) "orders" := He.noat_ok (T.d.fact 89 rfl)
theorem Top.nP3 (T : Top K mg) : NoAttr K (cP K) "spots" := He.noat_ok (T.d.fact 90 rfl)
theorem Top.nB1 (T : Top K mg) : NoAttr K (cB K) "names" := He.noat_ok (T.d.fact 91 rfl)
theorem Top.nB2 (T : Top K mg) : NoAttr K (cB K) "told" := He.noat_ok (T.d.fact 92 rfl)
theorem Top.gP (T : Top K mg) : mg "Panel" = some (.ref (cP K)) := by
  obtain ⟨h', X, G⟩ := T.ex
  exact He.glo_ok X G (T.d.fact 59 rfl)
theorem Top.gB (T : Top K mg) : mg "Book" = some (.ref (cB K)) := by
  obtain ⟨h', X, G⟩ := T.ex
  exact He.glo_ok X G (T.d.fact 60 rfl)
theorem Top.insP (T : Top K mg) : C8.InsC K (cP K) := insB_ok T.clsP (He.ba (He.ba (congrArg Prod.fst T.c)).1).1
theorem Top.insB (T : Top K mg) : C8.InsC K (cB K) := insB_ok T.clsB (He.ba (He.ba (congrArg Prod.fst T.c)).1).2
theorem Top.neB (T : Top K mg) : PySem.W.findIn K (.ref (cB K)) "__ne__" = some (some (.builtin "object.__ne__")) := He.eqO_ok (He.ba (congrArg Prod.fst T.c)).2
/-- a method's record -/
theorem Top.mfn (T : Top K mg) (i : Nat) {d : He.DefD} (hd : dfn[i]? = some d) {x m : Str} (hn : d.at_ = (x, some m)) : ∃ fd, FunD K d.name d.qual d.params d.body d.scope (d.dvs K) (d.kws K) (He.ma K (He.ga K x) m) fd := by
  obtain ⟨fd, F⟩ := T.d.def_ i hd
  have e : He.fAd K d.at_ = He.ma K (He.ga K x) m := by rw [hn]; rfl
  rw [e] at F
  exact ⟨fd, F⟩
end
section
variable {X : Cx} {σ : L2.St} {S H S0 H0 S' H' : Hp} {e a b : Expr} {es : List Expr} {pos pos' : Pos} {D : Ends} {r r1 r2 : Rl} {names : List Str} {rows : List (List Str)} {told : List Ln}
theorem ge_pnames (T : Top X.K X.mg) (h : GE X e σ S (pan X.K names rows)) (hb : attributeBase e "names" X.env (eval e X.env) = eval e X.env := by rfl) : GE X (.Attribute e "names" pos) σ S (dt names) :=
  ge_fld T.clsP T.nP1 h (fun S ws hw => by obtain ⟨v1, _, rfl, h1, v2, _, rfl, h2, v3, _, rfl, h3, rfl⟩ := hw; exact ⟨v1, rfl, h1⟩) hb
theorem ge_porders (T : Top X.K X.mg) (h : GE X e σ S (pan X.K names rows)) (hb : attributeBase e "orders" X.env (eval e X.env) = eval e X.env := by rfl) : GE X (.Attribute e "orders" pos) σ S (dt rows) :=
  ge_fld T.clsP T.nP2 h (fun S ws hw => by obtain ⟨v1, _, rfl, h1, v2, _, rfl, h2, v3, _, rfl, h3, rfl⟩ := hw; exact ⟨v2, rfl, h2⟩) hb
theorem ge_bnames (T : Top X.K X.mg) (h : GE X e σ S (bok X.K names told)) (hb : attributeBase e "names" X.env (eval e X.env) = eval e X.env := by rfl) : GE X (.Attribute e "names" pos) σ S (dt names) :=
  ge_fld T.clsB T.nB1 h (fun S ws hw => by obtain ⟨v1, _, rfl, h1, v2, _, rfl, h2, rfl⟩ := hw; exact ⟨v1, rfl, h1⟩) hb
theorem ge_btold (T : Top X.K X.mg) (h : GE X e σ S (bok X.K names told)) (hb : attributeBase e "told" X.env (eval e X.env) = eval e X.env := by rfl) : GE X (.Attribute e "told" pos) σ S (dt told) :=
  ge_fld T.clsB T.nB2 h (fun S ws hw => by obtain ⟨v1, _, rfl, h1, v2, _, rfl, h2, rfl⟩ := hw; exact ⟨v2, rfl, h2⟩) hb
theorem bok_of {S : Hp} {x dx : Addr} {v l : V} (hx : S x = some (.ins (cB X.K) dx [("names", v), ("told", l)])) (h1 : Rep.rep S v names) (h2 : Rep.rep S l told) : (bok X.K names told).p S (.ref x) :=
  ⟨x, dx, [v, l], rfl, hx, v, _, rfl, h1, l, _, rfl, h2, rfl⟩
theorem pan_of {S : Hp} {x dx : Addr} {v l u : V} (hx : S x = some (.ins (cP X.K) dx [("names", v), ("orders", l), ("spots", u)])) (h1 : Rep.rep S v names) (h2 : Rep.rep S l rows) : (pan X.K names rows).p S (.ref x) :=
  ⟨x, dx, [v, l, u], rfl, hx, v, _, rfl, h1, l, _, rfl, h2, u, _, rfl, trivial, rfl⟩
/-- isinstance by an own class -/
theorem ge_isiC {T : Str} {C : Addr} {fs : List (Str × Rl)} {p p2 : Pos} (hm : X.mg "isinstance" = none) (c : C8.InsC X.K C) (hm2 : X.mg T = some (.ref C)) (h : GE X e σ S (rIns C fs)) (hg : Gl X "isinstance" := by rfl) (hg2 : Gl X T := by rfl) (hd : (T == ("__debug__" : Str)) = false := by decide)
    (hs : starEach [e, .Name T p2] X.env = (false, eval e X.env) :: starEach [.Name T p2] X.env := by rfl) (hs2 : starEach [.Name T p2] X.env = (false, eval (.Name T p2) X.env) :: starEach [] X.env := by rfl) (hpl : (backTo pos (starEach [.Name T p2] X.env)).any (·.1) = false := by rfl) :
    GE X (.Call (.Name "isinstance" p) [e, .Name T p2] [] pos) σ S (dt true) :=
  ge_of (pe_callB (C8.call_isC c) hg hm boot_isinstance' (pa_cons wE.pe (pa_cons (C8.pe_gc (v := .ref C) hg2 ⟨_, hm2, rfl⟩ hd) pa_nil hs2) hs) (by decide) (by decide) hs hpl) fun S1 H1 c d Q q => h S1 H1 c d _ fun v S2 H2 f hv => by
    obtain ⟨p, dx, ws, rfl, h1, h2⟩ := hv
    exact ⟨p, dx, _, rfl, f.sh _ _ h1, q _ S2 H2 f rfl⟩
/-- o.f = [] : a list of its own -/
theorem ws_fldOwn {o : Expr} {f : Str} {lp : Pos} {C x dx : Addr} {fs : List (Str × V)} (hc : Cls X.K C) (hn : NoAttr X.K C f) (hx : H x = some (.ins C dx fs)) (hS : Same S H) (nx : S x = none) (ho : GE X o σ S (rRef x)) (hl : fs.length < 1000)
    (k : ∀ l S' H', H l = none → l ≠ x → Fp S H S' H' → S' x = none → S' l = none → H' l = some (.lst []) → D.nx σ (upd H' x (.ins C dx (putF f (.ref l) fs)))) (hs : swapsWith (.List [] lp) (some (.Attribute o f pos')) pos.line X.env = pure false := by rfl) : wS X (.Assign [.Attribute o f pos'] (.List [] lp) pos) D σ H :=
  of_ps (ps_fld wE.pe (pe_lst pa_nil) hs) ⟨Nat.zero_le _, fun l hl0 => by
    have n0 : S l = none := same_none hS hl0
    have hne : x ≠ l := ne_of_none hx hl0
    have f0 : Fp S H S (upd H l (.lst [])) := Fp.newH hS hl0
    exact ho S _ (Same.refl _) f0.sh _ fun w S2 H2 f2 hw => by
      have hw : w = .ref x := hw
      subst hw
      have e1 : (upd H l (.lst [])) x = some (.ins C dx fs) := f0.hh _ _ hx
      have n1 := f2.fr x nx (by rw [e1]; exact fun z => nomatch z)
      have n2 := f2.fr l n0 (by rw [upd_same]; exact fun z => nomatch z)
      exact ⟨x, C, dx, fs, rfl, f2.hh _ _ e1, hc, hn, hl, k l S2 H2 hl0 (fun z => hne z.symm) (f0.trans f2) n1 n2 (f2.hh _ _ upd_same)⟩⟩
/-! ### None or something -/
def rOpt (b : Bool) : Rl := ⟨fun _ v => cond b (∃ p, v = V.ref p) (v = .non), fun _ h => h⟩
theorem ge_isNone {j p} {k : Bool} (h : GE X e σ S (rOpt k)) : GE X (.Compare e [.Is] [.Constant .none j p] pos) σ S (dt (!k)) :=
  ge_of (pe_cmp (pc_isN wE.pe) rfl) fun S1 H1 c d Q q => h S1 H1 c d _ fun v S2 H2 f hv => by
    have e : decide (v = .non) = !k := by
      cases k with
      | true => obtain ⟨p, rfl⟩ := hv; rfl
      | false => have hv : v = .non := hv; subst hv; rfl
    rw [e]
    exact q _ S2 H2 f rfl
theorem ge_notNone {j p} {k : Bool} (h : GE X e σ S (rOpt k)) : GE X (.Compare e [.IsNot] [.Constant .none j p] pos) σ S (dt k) :=
  ge_of (pe_cmp (pc_notN wE.pe) rfl) fun S1 H1 c d Q q => h S1 H1 c d _ fun v S2 H2 f hv => by
    have e : (!decide (v = .non)) = k := by
      cases k with
      | true => obtain ⟨p, rfl⟩ := hv; rfl
      | false => have hv : v = .non := hv; subst hv; rfl
    rw [e]
    exact q _ S2 H2 f rfl
theorem gt_notNone {j p} {k : Bool} (h : GE X e σ S (rOpt k)) : GT X (.Compare e [.IsNot] [.Constant .none j p] pos) σ S k :=
  gt_of (pt_cmp (pc_notN wE.pe) rfl) fun S1 H1 c d Q q => h S1 H1 c d _ fun v S2 H2 f hv => by
    refine ⟨k, ?_, q S2 H2 f⟩
    have e : (!decide (v = .non)) = k := by
      cases k with
      | true => obtain ⟨p, rfl⟩ := hv; rfl
      | false => have hv : v = .non := hv; subst hv; rfl
    rw [e]
theorem ge_non0 {j p} : GE X (.Constant .none j p) σ S (rOpt false) := ge_of pe_non (go_c rfl)
/-- a tuple nobody looks into -/
theorem ge_tupAny {x1} (h : GA X [a, b] σ S [r1, r2]) : GE X (.Tuple [a, b] x1 pos) σ S (rOpt true) :=
  let ⟨_, p, g⟩ := h
  ge_of (pe_tup p) fun S1 H1 c d Q q => g S1 H1 c d _ fun vs S2 H2 f hv => by
    obtain ⟨v1, _, rfl, h1, v2, _, rfl, h2, rfl⟩ := hv
    exact ⟨(by show 2 ≤ sizeLine; decide), fun p hp => q _ _ _ (f.trans (Fp.newH f.sh hp)) ⟨p, rfl⟩⟩
theorem ge_ifR {c : Expr} {k : Bool} (h : GT X c σ S k) (h1 : k = true → GE X a σ S r1) (h2 : k = false → GE X b σ S r2) : GE X (.IfExp c a b pos) σ S (cond k r1 r2) :=
  ge_ifExp h (fun e => by subst e; exact h1 rfl) (fun e => by subst e; exact h2 rfl)
/-- x, y, z = a, b, [] -/
theorem ws_par3O (i j l : Nat) {x y z : Str} {px py pz pt lp : Pos} {kt k2 pt2} (hc : X.calm = true) (hN : X.N.Nodup) (g1 : GE X a σ S r1) (g2 : GE X b σ S r2) (hS : Same S H)
    (k : ∀ u v w S' H' H'', Fp S H S' H' → r1.p S' u → r2.p S' v → H' w = none → H'' = upd H' w (.lst []) → D.nx (((σ.set i (some u)).set j (some v)).set l (some (.ref w))) H'')
    (hi : X.N[i]? = some x := by rfl) (hj : X.N[j]? = some y := by rfl) (hl : X.N[l]? = some z := by rfl) (hij : i ≠ j := by decide) (hil : i ≠ l := by decide) (hjl : j ≠ l := by decide)
    (hx : X.env.scope.names.lookup x = some .local := by rfl) (hy : X.env.scope.names.lookup y = some .local := by rfl) (hz : X.env.scope.names.lookup z = some .local := by rfl)
    (hw : swappedStores [.Tuple [.Name x px, .Name y py, .Name z pz] kt pt] (.Tuple [a, b, .List [] lp] k2 pt2) X.env = pure (some [x, y, z]) := by rfl)
    (hs : swapsWithSole [.Tuple [.Name x px, .Name y py, .Name z pz] kt pt] (.Tuple [a, b, .List [] lp] k2 pt2) pos.line X.env = pure false := by rfl)
    (s1 : starEach [a, b, .List [] lp] X.env = (false, eval a X.env) :: starEach [b, .List [] lp] X.env := by rfl) (s2 : starEach [b, .List [] lp] X.env = (false, eval b X.env) :: starEach [.List [] lp] X.env := by rfl)
    (s3 : starEach [.List [] lp] X.env = (false, eval (.List [] lp) X.env) :: starEach [] X.env := by rfl) : wS X (.Assign [.Tuple [.Name x px, .Name y py, .Name z pz] kt pt] (.Tuple [a, b, .List [] lp] k2 pt2) pos) D σ H :=
  of_ps (ps_par3 hc hN hi hj hl hij hil hjl hx hy hz (pa_cons wE.pe (pa_cons wE.pe (pa_cons (pe_lst pa_nil) pa_nil s3) s2) s1) hw hs)
    (g1 S H (Same.refl _) hS _ fun u S1 H1 f1 h1 => g2 S1 H1 f1.ss f1.sh _ fun v S2 H2 f2 h2 => ⟨Nat.zero_le _, fun w hn => ⟨u, v, .ref w, rfl, k u v w S2 H2 _ (f1.trans f2) (r1.m f2.ss h1) h2 hn rfl⟩⟩)
end
/-! ### a for that fills an own list, more things changing -/
section
variable {X : Cx} {σ : L2.St} {S H S0 H0 S' H' : Hp} {M : Addr → Prop} {body : List Stmt} {pos tpos : Pos} {D : Ends} {α γ : Type} [Rep α] [Rep γ]
def NxA {B γ : Type} [Rep γ] (M : Addr → Prop) (S' S0 H0 : Hp) (l : Addr) (τ : B → Option V → L2.St) (I : List γ → Prop) : L2.St → Hp → Prop := fun σ4 H4 => ∃ S4 b y ys', Same S' S4 ∧ Fm M S0 H0 S4 H4 ∧ Own S4 H4 l ys' ∧ σ4 = τ b y ∧ I ys'
theorem ws_forAG {B : Type} {xs : List α} {x : Str} {iter : Expr} (j : Nat) (l : Addr) (τ : B → Option V → L2.St) (I : Nat → List γ → Prop) {b0 : B} {y0 : Option V} {ys0 : List γ} (hp : PassesOwn (model X.prog X.w) X.A X.env X.xe) (hc : X.calm = true) (hN : X.N.Nodup)
    (hi : GI X (.Name x tpos) iter σ S xs) (f0 : Fm M S0 H0 S H) (w0 : Own S H l ys0) (hI : I 0 ys0)
    (ht : ∀ i x v b ys S' H', xs[i]? = some x → Same S S' → Fm M S0 H0 S' H' → Own S' H' l ys → I i ys → Rep.rep S' v x →
      wSs X body { D with nx := NxA M S' S0 H0 l τ (I (i + 1)), ct := NxA M S' S0 H0 l τ (I (i + 1)), bk := D.nx } (τ b (some v)) H')
    (hd : ∀ b y ys S' H', Same S S' → Fm M S0 H0 S' H' → Own S' H' l ys → I xs.length ys → D.nx (τ b y) H')
    (eσ : σ = τ b0 y0 := by rfl) (eτ : ∀ b y v, (τ b y).set j (some v) = τ b (some v) := by intro _ _ _; rfl) (hx : X.N[j]? = some x := by rfl) (hl : Loc X.env.scope x := by first | exact Or.inl rfl | exact Or.inr rfl)
    (hf : X.fn x = true ∨ X.env.scope.names.lookup x = some .local := by first | exact .inl rfl | exact .inr rfl) (hfs : ∀ x, foldedSetIterable iter X.env x = pure x := by intro _; rfl) : wS X (.For (.Name x tpos) iter body [] pos) D σ H :=
  ws_for hp hc hi (pg_name hN hx hl hf) f0.sh (fun S2 H2 i σ' S' H' => Same S2 S' ∧ Fm M S0 H0 S' H' ∧ ∃ b y ys, Own S' H' l ys ∧ σ' = τ b y ∧ I i ys)
    (fun S2 H2 f2 => ⟨Same.refl _, f0.tp f2, b0, y0, ys0, w0.go f2, eσ, hI⟩)
    (fun S2 H2 f2 i σ' S' H' w => ⟨w.1, w.2.1.sh⟩)
    (fun S2 H2 f2 i x v σ' S' H' S'' H'' hx w fy hv => by
      obtain ⟨s1, f, b, y, ys, o, rfl, hI⟩ := w
      show wSs X body _ ((τ b y).set j (some v)) H''
      rw [eτ]
      have k := ht i x v b ys S'' H'' hx ((f2.ss.trans s1).trans fy.ss) (f.tp fy) (o.go fy) hI hv
      refine wSs_mk fun pins s Iv => thn (wSs_run k pins s Iv) fun fl s' q => ?_
      cases fl with
      | next => obtain ⟨σ4, H4, I4, S4, b, y, ys', s4, f4, o4, e4, hI4⟩ := q; exact ⟨σ4, H4, I4, S4, (s1.trans fy.ss).trans s4, f4, b, y, ys', o4, e4, hI4⟩
      | cont => obtain ⟨σ4, H4, I4, S4, b, y, ys', s4, f4, o4, e4, hI4⟩ := q; exact ⟨σ4, H4, I4, S4, (s1.trans fy.ss).trans s4, f4, b, y, ys', o4, e4, hI4⟩
      | brk => exact q
      | ret u => exact q)
    (fun S2 H2 f2 σ' S' H' w => by
      obtain ⟨s1, f, b, y, ys, o, rfl, hI⟩ := w
      exact hd b y ys S' H' (f2.ss.trans s1) f o hI) hfs
end
/-! ### dicts by texts -/
def rMap {β : Type} [Rep β] (ks : List Str) (f : Str → β) : Rl := ⟨fun S v => ∃ p kvs, v = .ref p ∧ S p = some (.dK kvs) ∧ ∀ k ∈ ks, ∃ v, valV kvs (.inr k) = some v ∧ Rep.rep S v (f k), fun e h => by
  obtain ⟨p, kvs, rfl, h1, h2⟩ := h
  exact ⟨p, kvs, rfl, e _ _ h1, fun k hk => by obtain ⟨v, h3, h4⟩ := h2 k hk; exact ⟨v, h3, Rep.mono e h4⟩⟩⟩
section
variable {X : Cx} {σ : L2.St} {S H : Hp} {kx vx iter o i : Expr} {scope : Scope} {pos tpos : Pos} {β : Type} [Rep β] {xs : List Str} {f : Str → β} {x : Str}
theorem ge_dget {ks : List Str} {k : Str} {n : Nat} (hr : Room n X.A) (ho : GE X o σ S (rMap ks f)) (hi : GE X i σ S (dt k)) (hk : k ∈ ks) (hs : NoSl i := by exact fun _ _ => rfl) : GE X (.Subscript o i pos) σ S (dt (f k)) :=
  ge_of (pe_dget (by have := hr.units; omega) wE.pe wE.pe hs) fun S1 H1 c d Q q => ho S1 H1 c d _ fun v S2 H2 f2 hv => hi S2 H2 (c.trans f2.ss) f2.sh _ fun w S3 H3 f3 hw => by
    obtain ⟨p, kvs, rfl, h1, h2⟩ := hv
    obtain ⟨v, h3, h4⟩ := h2 k hk
    obtain ⟨rfl, _⟩ := hw
    refine ⟨p, v, rfl, .inl ⟨kvs, .inr k, .inl (f3.sh _ _ (f3.ss _ _ h1)), rfl, h3.symm⟩, q v S3 H3 (f2.trans f3) (Rep.mono f3.ss h4)⟩
theorem go_dc {own : List (Str × Nat)} {g : TG} {comps : Str → List Rl} {τ : List V → L2.St} {wi : TI} (hz : xs.length ≤ most) (hi : ∀ S1 H1, Same S S1 → Same S1 H1 → ∀ R : It → Hp → Prop, (∀ J S2 H2, Fp S1 H1 S2 H2 → Src J S2 xs → R J H2) → wi σ H1 R)
    (ht : Tgt g (wipe σ (own.map (·.2))) comps τ) (hw : ∀ ws, wipe (τ ws) (own.map (·.2)) = wipe σ (own.map (·.2)))
    (hk : ∀ x ws S1, Same S S1 → x ∈ xs → All2 S1 (comps x) ws → ∀ s H C cl fp, GE (BX X scope s H C cl fp) kx (τ ws) S1 (dt x))
    (hf : ∀ x ws S1, Same S S1 → x ∈ xs → All2 S1 (comps x) ws → ∀ s H C cl fp, GE (BX X scope s H C cl fp) vx (τ ws) S1 (dt (f x))) :
    Go (tDc wi g (bTs X scope []) (bE X scope kx) (bE X scope vx) (own.map (·.2))) σ S (rMap xs f) := fun S1 H1 c d Q q => by
  refine hi S1 H1 c d _ fun J S2 H2 f2 src D hD => ?_
  refine ⟨fun i m H => m = xs.length - i ∧ i ≤ xs.length ∧ ∃ S' kvs, Fp S2 H2 S' H ∧ S' D = none ∧ H D = some (.dK kvs) ∧ kvs.length ≤ i ∧ ∀ k ∈ xs.take i, ∃ v, valV kvs (.inr k) = some v ∧ Rep.rep S' v (f k), ⟨xs.length, rfl, Nat.zero_le _, S2, [], Fp.newH f2.sh hD, same_none f2.sh hD, upd_same, Nat.le_refl _, by simp⟩, ?_⟩
  rintro i m H ⟨rfl, hi, S', kvs, fi, nD, eD, hl, hr⟩
  by_cases hlt : i < xs.length
  · refine .inr ⟨src.go i S' H fi.ss fi.sh hlt, fun H => i + 1 ≤ xs.length ∧ ∃ S' kvs, Fp S2 H2 S' H ∧ S' D = none ∧ H D = some (.dK kvs) ∧ kvs.length ≤ i + 1 ∧ ∀ k ∈ xs.take (i + 1), ∃ v, valV kvs (.inr k) = some v ∧ Rep.rep S' v (f k), fun H' q' => ⟨xs.length - (i + 1), by omega, rfl, q'⟩, fun v H' y => ?_⟩
    obtain ⟨S'', x, fy, hx, hv⟩ := src.yld i S' H v H' fi.ss fi.sh hlt y
    have hm : x ∈ xs := List.mem_of_getElem? hx
    have nDH : H D ≠ none := by rw [eD]; exact fun z => nomatch z
    have nD2 : S'' D = none := fy.fr D nD nDH
    have e2 : H' D = some (.dK kvs) := fy.hh D _ eD
    have cS : Same S S'' := ((c.trans f2.ss).trans fi.ss).trans fy.ss
    refine ht x v S'' H' hv fy.sh _ fun ws hws => ⟨hw ws, ?_⟩
    refine fun s H0 C cl fp => gts_nil S'' H' (Same.refl _) fy.sh _ fun S3 H3 f3 => ?_
    rw [if_pos rfl]
    have nD3 : S3 D = none := f3.fr D nD2 (by rw [e2]; exact fun z => nomatch z)
    refine fun s H0 C cl fp => hk x ws S3 (cS.trans f3.ss) hm (hws.mono f3.ss) s H0 C cl fp S3 H3 (Same.refl _) f3.sh _ fun y S4 H4 f4 hy => ?_
    have e3 : H3 D = some (.dK kvs) := f3.hh D _ e2
    have nD4 : S4 D = none := f4.fr D nD3 (by rw [e3]; exact fun z => nomatch z)
    refine fun s H0 C cl fp => hf x ws S4 ((cS.trans f3.ss).trans f4.ss) hm (hws.mono (f3.ss.trans f4.ss)) s H0 C cl fp S4 H4 (Same.refl _) f4.sh _ fun z S5 H5 f5 hz5 => ?_
    have e4 : H4 D = some (.dK kvs) := f4.hh D _ e3
    have nD5 : S5 D = none := f5.fr D nD4 (by rw [e4]; exact fun z => nomatch z)
    obtain ⟨rfl, _⟩ := hy
    have hz' : xs.length ≤ 4000 := hz
    refine ⟨kvs, .inr x, rfl, f5.hh D _ e4, small_lt (show kvs.length ≤ 4000 by omega), by omega, S5, putK kvs (.inr x) z, ((((fi.trans fy).trans f3).trans f4).trans f5).mutD hD nD5, nD5, upd_same, Nat.le_trans (length_putK _ _ _) (by omega), fun k hk => ?_⟩
    rw [valV_put]
    by_cases c : (Sum.inr k : Key) = .inr x
    · rw [if_pos c]
      have c : k = x := by injection c
      subst c
      exact ⟨z, rfl, hz5⟩
    · rw [if_neg c]
      rw [take_snoc hx] at hk
      rcases List.mem_append.mp hk with z1 | z1
      · obtain ⟨v, h1, h2⟩ := hr k z1
        exact ⟨v, h1, Rep.mono (((fy.ss.trans f3.ss).trans f4.ss).trans f5.ss) h2⟩
      · exact absurd (by rw [List.mem_singleton.mp z1]) c
  · have e : i = xs.length := by omega
    subst e
    refine .inl ⟨src.stop S' H fi.ss fi.sh, ?_⟩
    have n := (f2.trans (fi.keepD hD nD eD))
    rw [List.take_length] at hr
    exact q _ _ _ n ⟨D, kvs, rfl, upd_same, fun k hk => by
      obtain ⟨v, h1, h2⟩ := hr k hk
      exact ⟨v, h1, Rep.mono (fun a u e => by rw [upd_ne (ne_of_none e nD)]; exact e) h2⟩⟩
/-- {x: e for x in it} -/
theorem ge_dc (N : List Str) (sc : Scope) (j : Nat) (f : Str → β) (hc : X.calm = true) (hN : X.N.Nodup) (hi : GI X (.Name x tpos) iter σ S xs) (hz : xs.length ≤ most)
    (hk : ∀ y v S1, Same S S1 → y ∈ xs → Rep.rep S1 v y → ∀ s H C cl fp, GE (BX X scope s H C cl fp) kx ((wipe σ [j]).set j (some v)) S1 (dt y))
    (hf : ∀ y v S1, Same S S1 → y ∈ xs → Rep.rep S1 v y → ∀ s H C cl fp, GE (BX X scope s H C cl fp) vx ((wipe σ [j]).set j (some v)) S1 (dt (f y)))
    (hg : ∀ s H C cl fp, PG (BX X scope s H C cl fp) (.Name x tpos) (gName j) := by first | exact fun _ _ _ _ _ => pg_name (by assumption) rfl (Or.inl rfl) | exact fun _ _ _ _ _ => pg_name (by assumption) rfl (Or.inr rfl)) (hw : ∀ ws : List V, wipe ((wipe σ [j]).set j ws.head?) [j] = wipe σ [j] := by intro _; rfl)
    (hs : ∀ x, foldedSetIterable iter X.env x = pure x := by intro _; rfl) (eN : X.N = N := by rfl) (eS : X.env.scope = sc := by rfl) (ok : blkC N sc scope [(x, j)] = true := by decide +kernel) :
    GE X (.DictComp kx vx [⟨.Name x tpos, iter, [], 0⟩] scope pos) σ S (rMap xs f) :=
  let ⟨_, pi, gi⟩ := hi
  ge_of (pe_dc hc hN pi (blkOk_by (own := [(x, j)]) (by rw [eN, eS]; exact ok)) hg (fun s H C cl fp => pts_b s H C cl fp) (fun s H C cl fp => pe_b s H C cl fp) (fun s H C cl fp => pe_b s H C cl fp) hs) (go_dc (own := [(x, j)]) hz gi (tgt_name j) hw
    (fun y ws S1 a b c s H C cl fp => by obtain ⟨v, _, rfl, hv, rfl⟩ := c; exact hk y v S1 a b hv s H C cl fp)
    fun y ws S1 a b c s H C cl fp => by obtain ⟨v, _, rfl, hv, rfl⟩ := c; exact hf y v S1 a b hv s H C cl fp)
end
end Cp
namespace Cp
open PySem PySem.Spec PyProof.Rows L2
section
variable {P : Program} {w : World} {K : PySem.W.Frag} {mg : Str → Option Value} {base : Heap}
theorem no_fldP {m : Str} (h : (["names", "orders", "spots"] : List Str).all (fun k => !decide (k = m)) = true := by decide) (ws : List V) : ((["names", "orders", "spots"] : List Str).zip ws).lookup m = none := by
  have n : ∀ (ks : List Str) (ws : List V), ks.all (fun k => !decide (k = m)) = true → (ks.zip ws).lookup m = none := by
    intro ks
    induction ks with
    | nil => intro ws _; rfl
    | cons k ks ih =>
      intro ws h
      rw [List.all_cons, Bool.and_eq_true] at h
      cases ws with
      | nil => rfl
      | cons w ws =>
        rw [List.zip_cons_cons, List.lookup_cons]
        have hk : (m == k) = false := by
          have h1 : ¬ k = m := by simpa using h.1
          cases e : (m == k) with
          | false => rfl
          | true => exact absurd (eq_of_beq e).symm h1
        rw [hk]
        exact ih ws h.2
  exact n _ ws h
theorem no_fldB {m : Str} (h : (["names", "told"] : List Str).all (fun k => !decide (k = m)) = true := by decide) (ws : List V) : ((["names", "told"] : List Str).zip ws).lookup m = none := by
  have h2 : (["names", "orders", "spots"] : List Str).all (fun k => !decide (k = m)) = true ∨ m = "orders" ∨ m = "spots" := by
    by_cases a : m = "orders"
    · exact .inr (.inl a)
    by_cases b : m = "spots"
    · exact .inr (.inr b)
    left
    simp only [List.all_cons, List.all_nil, Bool.and_true, Bool.and_eq_true, Bool.not_eq_true', decide_eq_false_iff_not] at h ⊢
    exact ⟨h.1, fun z => a z.symm, fun z => b z.symm⟩
  simp only [List.all_cons, List.all_nil, Bool.and_true, Bool.and_eq_true, Bool.not_eq_true', decide_eq_false_iff_not] at h
  have ne : ∀ k : Str, ¬ k = m → (m == k) = false := fun k hk => by
    cases e : (m == k) with
    | false => rfl
    | true => exact absurd (eq_of_beq e).symm hk
  match ws with
  | [] => rfl
  | [w] => simp [List.zip, List.zipWith, List.lookup, ne _ h.1]
  | w :: w2 :: ws => simp [List.zip, List.zipWith, List.lookup, ne _ h.1, ne _ h.2]
theorem ed_len {α : Type} [DecidableEq α] : ∀ (n : Nat) (xs : List α), xs.length ≤ n → xs.eraseDups.length ≤ xs.length
  | 0, [], _ => by simp
  | n + 1, [], _ => by simp
  | n + 1, x :: xs, h => by
    rw [List.eraseDups_cons, List.length_cons, List.length_cons]
    have h1 := List.length_filter_le (fun b => !b == x) xs
    have h2 := ed_len n (List.filter (fun b => !b == x) xs) (by rw [List.length_cons] at h; omega)
    omega
theorem sset_len (xs : List (Tp Str)) : (sset xs).length ≤ xs.length := by
  unfold sset
  rw [srt_len]
  exact ed_len _ xs (Nat.le_refl _)
theorem numb_get {α : Type} {xs : List α} {i : Nat} {x : Int × α} (h : (numb xs)[i]? = some x) : xs[i]? = some x.2 := by
  unfold numb at h
  rw [List.getElem?_map] at h
  cases e : xs.zipIdx[i]? with
  | none => rw [e] at h; cases h
  | some p =>
    rw [e] at h
    cases h
    rw [List.getElem?_zipIdx] at e
    cases e2 : xs[i]? with
    | none => rw [e2] at e; cases e
    | some y => rw [e2] at e; cases e; rfl
def m_least_of (lots : List (List Str)) : List (List Str) := (List.filter (fun (y44 : List Str) => (decide ((List.filter (fun (y45 : List Str) => ((!decide (y45 = y44)) && (m_is_part y45 y44))) (List.map (fun (y42 : Tp Str) => (y42).l) (sset (List.map (fun (y43 : List Str) => (Tp.mk y43)) lots)))) = []))) (List.map (fun (y42 : Tp Str) => (y42).l) (sset (List.map (fun (y43 : List Str) => (Tp.mk y43)) lots))))
abbrev n_s_least_of : List Str := ["lots", "plain", "lot", "other"]
theorem sc_least_of : FnScope n_s_least_of ["lots"] (defScope s_least_of) := ⟨rfl, rfl, rfl, by decide +kernel, rfl, by decide +kernel, by decide +kernel⟩
abbrev P_least_of : Sp := Pr (List (List Str)) (fun a => [dt a]) (fun a => dt (m_least_of a)) (fun a => a.length ≤ 20)
theorem w_least_of (T : Top K mg) (c_is_part : Has P w K mg base "is_part" ["one", "other"] 1 P_is_part) : Has P w K mg base "least_of" ["lots"] 2 P_least_of := by
  obtain ⟨fd, F, g⟩ := T.fn 20 rfl rfl rfl
  refine has_of F g (F.bindsN fun _ _ _ _ _ _ us hl => match us, hl with | [_], _ => rfl) sc_least_of (fun _ => rfl) ?_
  have nd := sc_least_of.nd
  have b_list := T.free 63
  have b_set := T.free 65
  have b_sorted := T.free 64
  have b_tuple := T.free 70
  intro cdv A0 outer s H E hr lots S vs D hS h hp q hn
  obtain ⟨v_lots, _, rfl, h_lots, rfl⟩ := h
  exact wss_cons (ws_set 1 (ge_map n_s_least_of (defScope s_least_of) 2 (fun (y42 : Tp Str) => (y42).l) rfl nd (gi_list (ge_sortset hr b_sorted b_set (ge_map n_s_least_of (defScope s_least_of) 2 (fun (y43 : List Str) => (Tp.mk y43)) rfl nd (gi_list (ge_name 0 rfl h_lots)) (rep_small h_lots) (fun y43 v43 S43 hs43 hm43 hv43 _ _ _ _ _ => (ge_tuple b_tuple (ge_name 2 rfl hv43)))) (by rw [List.length_map]; exact Nat.lt_of_le_of_lt hp (by decide)))) (Nat.le_trans (sset_len _) (by rw [List.length_map]; exact Nat.le_trans hp (by decide))) (fun y42 v42 S42 hs42 hm42 hv42 _ _ _ _ _ => (ge_listT' b_list (ge_name 2 rfl hv42)))) (Fp.refl hS).sh (fun v41 S41 H41 f41 h41 => wss_one (ws_ret ((Fp.refl hS).trans f41) (ge_flt n_s_least_of (defScope s_least_of) 2 (fun (y44 : List Str) => (decide ((List.filter (fun (y45 : List Str) => ((!decide (y45 = y44)) && (m_is_part y45 y44))) (List.map (fun (y42 : Tp Str) => (y42).l) (sset (List.map (fun (y43 : List Str) => (Tp.mk y43)) lots)))) = []))) rfl nd (gi_list (ge_name 1 rfl h41)) (rep_small h41) (fun y44 v44 S44 hs44 hm44 hv44 _ _ _ _ _ => gts_one (gt_eq hr (ge_flt n_s_least_of (relS _ (defScope s_least_of)) 3 (fun (y45 : List Str) => ((!decide (y45 = y44)) && (m_is_part y45 y44))) rfl nd (gi_list (ge_name 1 rfl (Rep.mono hs44 h41))) (rep_small (Rep.mono hs44 h41)) (fun y45 v45 S45 hs45 hm45 hv45 _ _ _ _ _ => gts_one (gt_w (gw_and (gt_ne hr (ge_name 3 rfl hv45) (ge_name 2 rfl (Rep.mono hs45 hv44))) fun _ => (gw_and1 (gt_val (ge_call (dt (m_is_part y45 y44)) c_is_part hr (y45, y44) (gA_cons (ge_name 3 rfl hv45) (gA_cons (ge_name 2 rfl (Rep.mono hs45 hv44)) gA_nil)) trivial)))))) (fun y45 v45 S45 hs45 hm45 hp45 hv45 _ _ _ _ _ => (ge_name 3 rfl hv45))) ge_nil)) (fun y44 v44 S44 hs44 hm44 hp44 hv44 _ _ _ _ _ => (ge_name 2 rfl hv44))) q)) nd)
def m_lots_in (rows : List (List Str)) (entry : Str) : List (List Str) := (m_least_of (List.map (fun (y46 : List Str) => (srt (List.take (Int.toNat (place y46 entry : Int)) y46))) rows))
abbrev n_s_lots_in : List Str := ["rows", "entry", "row"]
theorem sc_lots_in : FnScope n_s_lots_in ["rows", "entry"] (defScope s_lots_in) := ⟨rfl, rfl, rfl, by decide +kernel, rfl, by decide +kernel, by decide +kernel⟩
abbrev P_lots_in : Sp := Pr (List (List Str) × Str) (fun a => [dt a.1, dt a.2]) (fun a => dt (m_lots_in a.1 a.2)) (fun a => a.1.length ≤ 20 ∧ ∀ row ∈ a.1, a.2 ∈ row)
theorem w_lots_in (T : Top K mg) (c_least_of : Has P w K mg base "least_of" ["lots"] 2 P_least_of) : Has P w K mg base "lots_in" ["rows", "entry"] 3 P_lots_in := by
  obtain ⟨fd, F, g⟩ := T.fn 21 rfl rfl rfl
  refine has_of F g (F.bindsN fun _ _ _ _ _ _ us hl => match us, hl with | [_, _], _ => rfl) sc_lots_in (fun _ => rfl) ?_
  have nd := sc_lots_in.nd
  have b_sorted := T.free 64
  intro cdv A0 outer s H E hr ⟨rows, entry⟩ S vs D hS h hp q hn
  obtain ⟨v_rows, _, rfl, h_rows, v_entry, _, rfl, h_entry, rfl⟩ := h
  exact wss_one (ws_ret (Fp.refl hS) (ge_call (dt (m_least_of (List.map (fun (y46 : List Str) => (srt (List.take (Int.toNat (place y46 entry : Int)) y46))) rows))) c_least_of hr (List.map (fun (y46 : List Str) => (srt (List.take (Int.toNat (place y46 entry : Int)) y46))) rows) (gA_cons (ge_map n_s_lots_in (defScope s_lots_in) 2 (fun (y46 : List Str) => (srt (List.take (Int.toNat (place y46 entry : Int)) y46))) rfl nd (gi_list (ge_name 0 rfl h_rows)) (rep_small h_rows) (fun y46 v46 S46 hs46 hm46 hv46 _ _ _ _ _ => (ge_sorted hr b_sorted (ge_to' (ge_name 2 rfl hv46) (ge_index hr (ge_name 2 rfl hv46) (ge_name 1 rfl (Rep.mono hs46 h_entry)) (hp.2 _ hm46)) (Int.natCast_nonneg _))))) gA_nil) (by rw [List.length_map]; exact hp.1)) q)
def m_is_met (row : List Str) (field : List Str) (entry : Str) : Bool := (decide ((gat (List.filter (fun (y47 : Str) => (decide (y47 ∈ field))) row) 0) = entry))
abbrev n_s_is_met : List Str := ["row", "field", "entry", "name"]
theorem sc_is_met : FnScope n_s_is_met ["row", "field", "entry"] (defScope s_is_met) := ⟨rfl, rfl, rfl, by decide +kernel, rfl, by decide +kernel, by decide +kernel⟩
abbrev P_is_met : Sp := Pr (List Str × List Str × Str) (fun a => [dt a.1, dt a.2.1, dt a.2.2]) (fun a => dt (m_is_met a.1 a.2.1 a.2.2)) (fun a => 0 < (a.1.filter fun (y : Str) => decide (y ∈ a.2.1)).length)
theorem w_is_met (T : Top K mg) : Has P w K mg base "is_met" ["row", "field", "entry"] 1 P_is_met := by
  obtain ⟨fd, F, g⟩ := T.fn 15 rfl rfl rfl
  refine has_of F g (F.bindsN fun _ _ _ _ _ _ us hl => match us, hl with | [_, _, _], _ => rfl) sc_is_met (fun _ => rfl) ?_
  have nd := sc_is_met.nd
  intro cdv A0 outer s H E hr ⟨row, field, entry⟩ S vs D hS h hp q hn
  obtain ⟨v_row, _, rfl, h_row, v_field, _, rfl, h_field, v_entry, _, rfl, h_entry, rfl⟩ := h
  exact wss_one (ws_ret (Fp.refl hS) (ge_eq hr (ge_ix' (j := 0) (ge_flt n_s_is_met (defScope s_is_met) 3 (fun (y47 : Str) => (decide (y47 ∈ field))) rfl nd (gi_list (ge_name 0 rfl h_row)) (rep_small h_row) (fun y47 v47 S47 hs47 hm47 hv47 _ _ _ _ _ => gts_one (gt_in hr (ge_name 3 rfl hv47) (ge_name 1 rfl (Rep.mono hs47 h_field)))) (fun y47 v47 S47 hs47 hm47 hp47 hv47 _ _ _ _ _ => (ge_name 3 rfl hv47))) ge_int hp) (ge_name 2 rfl h_entry)) q)
def m_break (ln : Ln) (rows : List (List Str)) : Bool := cond (decide (ln.word = "call")) (decide (rows.filter (fun (y : List Str) => m_is_met y ln.lot ln.who) = [])) (rows.any fun y => m_is_met y (ln.lot ++ [ln.who]) ln.who)
abbrev okBr (ln : Ln) (rows : List (List Str)) : Prop := ln.lot.length ≤ 100 ∧ ∀ row ∈ rows, ln.who ∈ row ∧ 0 < (row.filter fun (y : Str) => decide (y ∈ ln.lot)).length
abbrev n_s_break_of : List Str := ["line", "rows", "word", "lot", "entry", "at", "row"]
theorem sc_break_of : FnScope n_s_break_of ["line", "rows"] (defScope s_break_of) := ⟨rfl, rfl, rfl, by decide +kernel, rfl, by decide +kernel, by decide +kernel⟩
abbrev P_break_of (K : PySem.W.Frag) : Sp := Pr (Ln × List (List Str)) (fun a => [dt a.1, dt a.2]) (fun a => rOpt (m_break a.1 a.2)) (fun a => okBr a.1 a.2)
theorem w_break_of (T : Top K mg) (c_copied : Has P w K mg base "copied" ["line"] 1 P_copied) (c_is_met : Has P w K mg base "is_met" ["row", "field", "entry"] 1 P_is_met) : Has P w K mg base "break_of" ["line", "rows"] 2 (P_break_of K) := by
  obtain ⟨fd, F, g⟩ := T.fn 16 rfl rfl rfl
  refine has_of F g (F.bindsN fun _ _ _ _ _ _ us hl => match us, hl with | [_, _], _ => rfl) sc_break_of (fun _ => rfl) ?_
  have nd := sc_break_of.nd
  have b_enumerate := T.free 67
  intro cdv A0 outer s H E hr ⟨line, rows⟩ S vs D hS h hp q hn
  obtain ⟨v_line, _, rfl, h_line, v_rows, _, rfl, h_rows, rfl⟩ := h
  refine wss_cons (ws_unln 2 3 4 rfl nd (ge_name 0 rfl h_line) hS (fun vw vl ve S1 H1 f1 hw hl he => wss_cons (ws_if (gt_eq hr (ge_name 2 rfl hw) ge_str) f1.sh (fun hk S2 H2 f2 => wss_one (ws_ret (f1.trans f2) (ge_ifR (gt_ne hr (ge_flt n_s_break_of (defScope s_break_of) 6 (fun (y48 : List Str) => (m_is_met y48 line.lot line.who)) rfl nd (gi_list (ge_name 1 rfl (Rep.mono (f1.trans f2).ss h_rows))) (rep_small (Rep.mono (f1.trans f2).ss h_rows)) (fun y48 v48 S48 hs48 hm48 hv48 _ _ _ _ _ => gts_one (gt_val (ge_call (dt (m_is_met y48 line.lot line.who)) c_is_met hr (y48, line.lot, line.who) (gA_cons (ge_name 6 rfl hv48) (gA_cons (ge_name 3 rfl (Rep.mono hs48 (Rep.mono f2.ss hl))) (gA_cons (ge_name 4 rfl (Rep.mono hs48 (Rep.mono f2.ss he))) gA_nil))) (hp.2 _ hm48).2))) (fun y48 v48 S48 hs48 hm48 hp48 hv48 _ _ _ _ _ => (ge_name 6 rfl hv48))) ge_nil) (fun _ => ge_non0) (fun _ => ge_tupAny (gA_cons (ge_call (dt (m_copied line)) c_copied hr line (gA_cons (ge_name 0 rfl (Rep.mono (f1.trans f2).ss h_line)) gA_nil) trivial) (gA_cons ge_none gA_nil)))) (fun v S' H' f h => q v S' H' f ?call))) (fun hk S2 H2 f2 => wss_nil ?rest))))
  case call =>
    show (rOpt (m_break line rows)).p S' v
    unfold m_break
    rw [hk]
    show (rOpt (decide (rows.filter (fun (y : List Str) => m_is_met y line.lot line.who) = []))).p S' v
    revert h
    cases decide (rows.filter (fun (y : List Str) => m_is_met y line.lot line.who) = []) <;> exact fun h => h
  case rest =>
    refine wss_cons (ws_for0P 5 6 (fun y z => [some v_line, some v_rows, some vw, some vl, some ve, y, z]) (fun i => ∀ r ∈ rows.take i, m_is_met r (line.lot ++ [line.who]) line.who = false) PassesOwn.never rfl nd
      (gi_enum b_enumerate (ge_name 1 rfl (Rep.mono (f1.trans f2).ss h_rows))) f2.sh (by simp) ?turn ?fin)
    case turn =>
      intro i x v w S3 H3 hx f3 hI hv1 hv2
      have hx2 := numb_get hx
      refine wss_one (ws_if (gt_val (ge_call (dt (m_is_met x.2 (line.lot ++ [line.who]) line.who)) c_is_met hr (x.2, (line.lot ++ [line.who]), line.who) (gA_cons (ge_name 6 rfl hv2) (gA_cons (ge_lstar (ge_name 3 rfl (Rep.mono (f2.trans f3).ss hl)) (ge_name 4 rfl (Rep.mono (f2.trans f3).ss he)) (by show _ < 4000; have h9 : line.lot.length ≤ 100 := hp.1; omega)) (gA_cons (ge_name 4 rfl (Rep.mono (f2.trans f3).ss he)) gA_nil))) (met_pos (hp.2 _ (List.mem_of_getElem? hx2)).1))) f3.sh (fun hk3 S4 H4 f4 => wss_one (ws_ret (((f1.trans f2).trans f3).trans f4) (ge_tupAny (gA_cons (ge_call (dt (m_copied line)) c_copied hr line (gA_cons (ge_name 0 rfl (Rep.mono f4.ss (Rep.mono ((f1.trans f2).trans f3).ss h_line))) gA_nil) trivial) (gA_cons (ge_name (r := dt x.1) 5 rfl (Rep.mono f4.ss hv1)) gA_nil))) (fun v S' H' f h => q v S' H' f ?_))) (fun hk3 S4 H4 f4 => wss_nil ⟨S4, _, _, f4, rfl, fun r hr2 => ?_⟩))
      · show (rOpt (m_break line rows)).p S' v
        have e : m_break line rows = true := by
          unfold m_break
          rw [hk]
          exact List.any_eq_true.mpr ⟨x.2, List.mem_of_getElem? hx2, hk3⟩
        rw [e]
        exact h
      · rw [take_snoc hx2] at hr2
        rcases List.mem_append.mp hr2 with z1 | z1
        · exact hI r z1
        · rw [List.mem_singleton.mp z1]; exact hk3
    case fin =>
      intro y z S3 H3 f3 hI
      rw [numb_len, List.take_length] at hI
      refine wss_one (ws_ret ((f1.trans f2).trans f3) ge_non0 (fun v S' H' f h => q v S' H' f ?_))
      show (rOpt (m_break line rows)).p S' v
      have e : m_break line rows = false := by
        unfold m_break
        rw [hk]
        show (rows.any fun y => m_is_met y (line.lot ++ [line.who]) line.who) = false
        rw [List.any_eq_false]
        exact fun r hr2 => by rw [hI r hr2]; exact Bool.false_ne_true
      rw [e]
      exact h
abbrev n_s_check_entries : List Str := ["value"]
theorem sc_check_entries : FnScope n_s_check_entries ["value"] (defScope s_check_entries) := ⟨rfl, rfl, rfl, by decide +kernel, rfl, by decide +kernel, by decide +kernel⟩
abbrev P_check_entries (K : PySem.W.Frag) : Sp := Pr (List Str) (fun a => [dt a]) (fun a => rNon) (fun a => m_are_entries a = true)
theorem w_check_entries (T : Top K mg) (c_are_entries : Has P w K mg base "are_entries" ["value"] 3 P_are_entries) : Has P w K mg base "check_entries" ["value"] 4 (P_check_entries K) := by
  obtain ⟨fd, F, g⟩ := T.fn 6 rfl rfl rfl
  refine has_of F g (F.bindsN fun _ _ _ _ _ _ us hl => match us, hl with | [_], _ => rfl) sc_check_entries (fun _ => rfl) ?_
  have nd := sc_check_entries.nd
  intro cdv A0 outer s H E hr value S vs D hS h hp q hn
  obtain ⟨v_value, _, rfl, h_value, rfl⟩ := h
  exact wss_one (ws_if (gt_not (gt_val (ge_call (dt (m_are_entries value)) c_are_entries hr value (gA_cons (ge_name 0 rfl h_value) gA_nil) trivial))) hS (fun hk S1 H1 f1 => absurd hk (by rw [show m_are_entries value = true from hp]; exact Bool.false_ne_true)) (fun hk S1 H1 f1 => wss_nil (by rw [hn]; exact q _ S1 H1 f1 rfl)))
abbrev n_s_check_panel : List Str := ["value"]
theorem sc_check_panel : FnScope n_s_check_panel ["value"] (defScope s_check_panel) := ⟨rfl, rfl, rfl, by decide +kernel, rfl, by decide +kernel, by decide +kernel⟩
abbrev P_check_panel (K : PySem.W.Frag) : Sp := Pr (List Str × List (List Str)) (fun a => [pan K a.1 a.2]) (fun a => rNon) (fun a => True)
theorem w_check_panel (T : Top K mg) : Has P w K mg base "check_panel" ["value"] 1 (P_check_panel K) := by
  obtain ⟨fd, F, g⟩ := T.fn 10 rfl rfl rfl
  refine has_of F g (F.bindsN fun _ _ _ _ _ _ us hl => match us, hl with | [_], _ => rfl) sc_check_panel (fun _ => rfl) ?_
  have nd := sc_check_panel.nd
  have b_isinstance := T.free 62
  intro cdv A0 outer s H E hr ⟨names, rows⟩ S vs D hS h hp q hn
  obtain ⟨v_value, _, rfl, h_value, rfl⟩ := h
  exact wss_one (ws_if (gt_not (gt_val (ge_isiC b_isinstance T.insP T.gP (ge_name 0 rfl h_value)))) hS (fun hk S1 H1 f1 => absurd hk (by exact Bool.false_ne_true)) (fun hk S1 H1 f1 => wss_nil (by rw [hn]; exact q _ S1 H1 f1 rfl)))
abbrev n_s_check_book : List Str := ["value"]
theorem sc_check_book : FnScope n_s_check_book ["value"] (defScope s_check_book) := ⟨rfl, rfl, rfl, by decide +kernel, rfl, by decide +kernel, by decide +kernel⟩
abbrev P_check_book (K : PySem.W.Frag) : Sp := Pr (List Str × List Ln) (fun a => [bok K a.1 a.2]) (fun a => rNon) (fun a => True)
theorem w_check_book (T : Top K mg) : Has P w K mg base "check_book" ["value"] 1 (P_check_book K) := by
  obtain ⟨fd, F, g⟩ := T.fn 13 rfl rfl rfl
  refine has_of F g (F.bindsN fun _ _ _ _ _ _ us hl => match us, hl with | [_], _ => rfl) sc_check_book (fun _ => rfl) ?_
  have nd := sc_check_book.nd
  have b_isinstance := T.free 62
  intro cdv A0 outer s H E hr ⟨names, told⟩ S vs D hS h hp q hn
  obtain ⟨v_value, _, rfl, h_value, rfl⟩ := h
  exact wss_one (ws_if (gt_not (gt_val (ge_isiC b_isinstance T.insB T.gB (ge_name 0 rfl h_value)))) hS (fun hk S1 H1 f1 => absurd hk (by exact Bool.false_ne_true)) (fun hk S1 H1 f1 => wss_nil (by rw [hn]; exact q _ S1 H1 f1 rfl)))
abbrev n_s_Panel_entries : List Str := ["self"]
theorem sc_Panel_entries : FnScope n_s_Panel_entries ["self"] (defScope s_Panel_entries) := ⟨rfl, rfl, rfl, by decide +kernel, rfl, by decide +kernel, by decide +kernel⟩
abbrev P_Panel_entries (K : PySem.W.Frag) : Sp := Pr (List Str × List (List Str)) (fun a => [pan K a.1 a.2]) (fun a => dt a.1) (fun a => True)
theorem w_Panel_entries (T : Top K mg) : HasM P w K mg base (cP K) "entries" ["self"] 1 (P_Panel_entries K) := by
  obtain ⟨fd, F⟩ := T.mfn 60 rfl (x := "Panel") (m := "entries") rfl
  refine hasM_of F T.mP2 (F.bindsN fun _ _ _ _ _ _ us hl => match us, hl with | [_], _ => rfl) sc_Panel_entries (fun _ => rfl) ?_
  have nd := sc_Panel_entries.nd
  have b_list := T.free 63
  intro cdv A0 outer s H E hr ⟨names, rows⟩ S vs D hS h hp q
  obtain ⟨v_self, _, rfl, h_self, rfl⟩ := h
  exact wss_one (ws_ret (Fp.refl hS) (ge_list b_list (ge_pnames T (ge_name 0 rfl h_self))) q)
abbrev n_s_Panel_rows : List Str := ["self", "row"]
theorem sc_Panel_rows : FnScope n_s_Panel_rows ["self"] (defScope s_Panel_rows) := ⟨rfl, rfl, rfl, by decide +kernel, rfl, by decide +kernel, by decide +kernel⟩
abbrev P_Panel_rows (K : PySem.W.Frag) : Sp := Pr (List Str × List (List Str)) (fun a => [pan K a.1 a.2]) (fun a => dt a.2) (fun a => True)
theorem szo {S : Hp} {v : V} {names : List Str} {rows : List (List Str)} (T : Top K mg) (h : (pan K names rows).p S v) : rows.length ≤ most := by
  obtain ⟨p, dx, ws, rfl, h1, v1, _, rfl, h2, v2, _, rfl, h3, _⟩ := h
  exact rep_small h3
theorem szn {S : Hp} {v : V} {names : List Str} {rows : List (List Str)} (T : Top K mg) (h : (pan K names rows).p S v) : names.length ≤ most := by
  obtain ⟨p, dx, ws, rfl, h1, v1, _, rfl, h2, _⟩ := h
  exact rep_small h2
theorem szt {S : Hp} {v : V} {names : List Str} {told : List Ln} (T : Top K mg) (h : (bok K names told).p S v) : told.length ≤ most := by
  obtain ⟨p, dx, ws, rfl, h1, v1, _, rfl, h2, v2, _, rfl, h3, _⟩ := h
  exact rep_small h3
theorem w_Panel_rows (T : Top K mg) : HasM P w K mg base (cP K) "rows" ["self"] 1 (P_Panel_rows K) := by
  obtain ⟨fd, F⟩ := T.mfn 61 rfl (x := "Panel") (m := "rows") rfl
  refine hasM_of F T.mP3 (F.bindsN fun _ _ _ _ _ _ us hl => match us, hl with | [_], _ => rfl) sc_Panel_rows (fun _ => rfl) ?_
  have nd := sc_Panel_rows.nd
  have b_list := T.free 63
  intro cdv A0 outer s H E hr ⟨names, rows⟩ S vs D hS h hp q
  obtain ⟨v_self, _, rfl, h_self, rfl⟩ := h
  exact wss_one (ws_ret (Fp.refl hS) (ge_map n_s_Panel_rows (defScope s_Panel_rows) 1 (fun (y49 : List Str) => y49) rfl nd (gi_list (ge_porders T (ge_name 0 rfl h_self))) (szo T h_self) (fun y49 v49 S49 hs49 hm49 hv49 _ _ _ _ _ => (ge_list b_list (ge_name 1 rfl hv49)))) (fun v S' H' f h => q v S' H' f (cast_rep (List.map_id' _) h)))
abbrev n_s_Book_entries : List Str := ["self"]
theorem sc_Book_entries : FnScope n_s_Book_entries ["self"] (defScope s_Book_entries) := ⟨rfl, rfl, rfl, by decide +kernel, rfl, by decide +kernel, by decide +kernel⟩
abbrev P_Book_entries (K : PySem.W.Frag) : Sp := Pr (List Str × List Ln) (fun a => [bok K a.1 a.2]) (fun a => dt a.1) (fun a => True)
theorem w_Book_entries (T : Top K mg) : HasM P w K mg base (cB K) "entries" ["self"] 1 (P_Book_entries K) := by
  obtain ⟨fd, F⟩ := T.mfn 63 rfl (x := "Book") (m := "entries") rfl
  refine hasM_of F T.mB2 (F.bindsN fun _ _ _ _ _ _ us hl => match us, hl with | [_], _ => rfl) sc_Book_entries (fun _ => rfl) ?_
  have nd := sc_Book_entries.nd
  have b_list := T.free 63
  intro cdv A0 outer s H E hr ⟨names, told⟩ S vs D hS h hp q
  obtain ⟨v_self, _, rfl, h_self, rfl⟩ := h
  exact wss_one (ws_ret (Fp.refl hS) (ge_list b_list (ge_bnames T (ge_name 0 rfl h_self))) q)
abbrev n_s_check_two : List Str := ["book", "panel"]
theorem sc_check_two : FnScope n_s_check_two ["book", "panel"] (defScope s_check_two) := ⟨rfl, rfl, rfl, by decide +kernel, rfl, by decide +kernel, by decide +kernel⟩
abbrev P_check_two (K : PySem.W.Frag) : Sp := Pr ((List Str × List Ln) × (List Str × List (List Str))) (fun a => [bok K a.1.1 a.1.2, pan K a.2.1 a.2.2]) (fun a => rNon) (fun a => a.2.1 = a.1.1)
theorem w_check_two (T : Top K mg) (c_check_book : Has P w K mg base "check_book" ["value"] 1 (P_check_book K)) (c_check_panel : Has P w K mg base "check_panel" ["value"] 1 (P_check_panel K)) (c_Panel_entries : HasM P w K mg base (cP K) "entries" ["self"] 1 (P_Panel_entries K)) : Has P w K mg base "check_two" ["book", "panel"] 2 (P_check_two K) := by
  obtain ⟨fd, F, g⟩ := T.fn 14 rfl rfl rfl
  refine has_of F g (F.bindsN fun _ _ _ _ _ _ us hl => match us, hl with | [_, _], _ => rfl) sc_check_two (fun _ => rfl) ?_
  have nd := sc_check_two.nd
  intro cdv A0 outer s H E hr ⟨⟨bn, told⟩, ⟨names, rows⟩⟩ S vs D hS h hp q hn
  obtain ⟨v_book, _, rfl, h_book, v_panel, _, rfl, h_panel, rfl⟩ := h
  have hp : names = bn := hp
  subst hp
  exact wss_cons (ws_expr (ge_call rNon c_check_book hr (names, told) (gA_cons (ge_name 0 rfl h_book) gA_nil) trivial) hS (fun _ S1 H1 f1 _ => wss_cons (ws_expr (ge_call rNon c_check_panel hr (names, rows) (gA_cons (ge_name 1 rfl ((pan K names rows).m f1.ss h_panel)) gA_nil) trivial) f1.sh (fun _ S2 H2 f2 _ => wss_one (ws_if (gt_ne hr (ge_meth0 (dt names) c_Panel_entries T.clsP hr (names, rows) (ge_name 1 rfl ((pan K names rows).m (f1.trans f2).ss h_panel)) rfl trivial no_fldP) (ge_bnames T (ge_name 0 rfl ((bok K names told).m (f1.trans f2).ss h_book)))) f2.sh (fun hk S3 H3 f3 => absurd hk (by simp)) (fun hk S3 H3 f3 => wss_nil (by rw [hn]; exact q _ S3 H3 ((f1.trans f2).trans f3) rfl)))))))
abbrev n_s_first_break : List Str := ["book", "panel", "line", "found"]
theorem sc_first_break : FnScope n_s_first_break ["book", "panel"] (defScope s_first_break) := ⟨rfl, rfl, rfl, by decide +kernel, rfl, by decide +kernel, by decide +kernel⟩
abbrev P_first_break (K : PySem.W.Frag) : Sp := Pr ((List Str × List Ln) × (List Str × List (List Str))) (fun a => [bok K a.1.1 a.1.2, pan K a.2.1 a.2.2]) (fun a => rOpt (a.1.2.any fun ln => m_break ln a.2.2)) (fun a => ∀ ln ∈ a.1.2, okBr ln a.2.2)
theorem w_first_break (T : Top K mg) (c_break_of : Has P w K mg base "break_of" ["line", "rows"] 2 (P_break_of K)) (c_Panel_rows : HasM P w K mg base (cP K) "rows" ["self"] 1 (P_Panel_rows K)) : Has P w K mg base "first_break" ["book", "panel"] 3 (P_first_break K) := by
  obtain ⟨fd, F, g⟩ := T.fn 17 rfl rfl rfl
  refine has_of F g (F.bindsN fun _ _ _ _ _ _ us hl => match us, hl with | [_, _], _ => rfl) sc_first_break (fun _ => rfl) ?_
  have nd := sc_first_break.nd
  intro cdv A0 outer s H E hr ⟨⟨bn, told⟩, ⟨names, rows⟩⟩ S vs D hS h hp q hn
  obtain ⟨v_book, _, rfl, h_book, v_panel, _, rfl, h_panel, rfl⟩ := h
  refine wss_cons (ws_forG (B := Option V) 2 (fun b y => [some v_book, some v_panel, y, b]) (fun i b S => ∀ ln ∈ told.take i, m_break ln rows = false) (b0 := none) PassesOwn.never rfl nd (fun _ _ _ _ _ h => h)
    (gi_list (ge_btold T (ge_name 0 rfl h_book))) hS (by simp) ?turn ?fin)
  case turn =>
    intro i x v b S2 H2 hx f2 hI hv
    refine wss_cons (ws_set 3 (ge_call (rOpt (m_break x rows)) c_break_of hr (x, rows) (gA_cons (ge_name 2 rfl hv) (gA_cons (ge_meth0 (dt rows) c_Panel_rows T.clsP hr (names, rows) (ge_name 1 rfl ((pan K names rows).m f2.ss h_panel)) rfl trivial no_fldP) gA_nil)) (hp x (List.mem_of_getElem? hx))) f2.sh (fun v3 S3 H3 f3 h3 => wss_one (ws_if (gt_notNone (ge_name 3 rfl h3)) f3.sh
      (fun hk S4 H4 f4 => wss_one (ws_ret ((f2.trans f3).trans f4) (ge_name 3 rfl ((rOpt (m_break x rows)).m f4.ss h3)) (fun v S' H' f h => q v S' H' f ?_))) (fun hk S4 H4 f4 => wss_nil ⟨S4, some v3, some v, f3.trans f4, rfl, fun ln hl => ?_⟩))) nd)
    · show (rOpt (told.any fun ln => m_break ln rows)).p S' v
      have e : (told.any fun ln => m_break ln rows) = true := List.any_eq_true.mpr ⟨x, List.mem_of_getElem? hx, hk⟩
      rw [e]
      rw [hk] at h
      exact h
    · rw [take_snoc hx] at hl
      rcases List.mem_append.mp hl with z1 | z1
      · exact hI ln z1
      · rw [List.mem_singleton.mp z1]; exact hk
  case fin =>
    intro b y S2 H2 f2 hI
    rw [List.take_length] at hI
    refine wss_one (ws_ret f2 ge_non0 (fun v S' H' f h => q v S' H' f ?_))
    show (rOpt (told.any fun ln => m_break ln rows)).p S' v
    have e : (told.any fun ln => m_break ln rows) = false := by
      rw [List.any_eq_false]
      exact fun r hr2 => by rw [hI r hr2]; exact Bool.false_ne_true
    rw [e]
    exact h
def m_keeps (told : List Ln) (rows : List (List Str)) : Bool := !(told.any fun ln => m_break ln rows)
abbrev n_s_keeps : List Str := ["book", "panel"]
theorem sc_keeps : FnScope n_s_keeps ["book", "panel"] (defScope s_keeps) := ⟨rfl, rfl, rfl, by decide +kernel, rfl, by decide +kernel, by decide +kernel⟩
abbrev P_keeps (K : PySem.W.Frag) : Sp := Pr ((List Str × List Ln) × (List Str × List (List Str))) (fun a => [bok K a.1.1 a.1.2, pan K a.2.1 a.2.2]) (fun a => dt (m_keeps a.1.2 a.2.2)) (fun a => a.2.1 = a.1.1 ∧ ∀ ln ∈ a.1.2, okBr ln a.2.2)
theorem w_keeps (T : Top K mg) (c_check_two : Has P w K mg base "check_two" ["book", "panel"] 2 (P_check_two K)) (c_first_break : Has P w K mg base "first_break" ["book", "panel"] 3 (P_first_break K)) : Has P w K mg base "keeps" ["book", "panel"] 4 (P_keeps K) := by
  obtain ⟨fd, F, g⟩ := T.fn 18 rfl rfl rfl
  refine has_of F g (F.bindsN fun _ _ _ _ _ _ us hl => match us, hl with | [_, _], _ => rfl) sc_keeps (fun _ => rfl) ?_
  have nd := sc_keeps.nd
  intro cdv A0 outer s H E hr ⟨⟨bn, told⟩, ⟨names, rows⟩⟩ S vs D hS h hp q hn
  obtain ⟨v_book, _, rfl, h_book, v_panel, _, rfl, h_panel, rfl⟩ := h
  exact wss_cons (ws_expr (ge_call rNon c_check_two hr ((bn, told), (names, rows)) (gA_cons (ge_name 0 rfl h_book) (gA_cons (ge_name 1 rfl h_panel) gA_nil)) hp.1) hS (fun _ S1 H1 f1 _ => wss_one (ws_ret f1 (ge_isNone (ge_call (rOpt (told.any fun ln => m_break ln rows)) c_first_break hr ((bn, told), (names, rows)) (gA_cons (ge_name 0 rfl ((bok K bn told).m f1.ss h_book)) (gA_cons (ge_name 1 rfl ((pan K names rows).m f1.ss h_panel)) gA_nil)) hp.2)) q)))
abbrev n_s_spots_of : List Str := ["row", "spot", "name"]
theorem sc_spots_of : FnScope n_s_spots_of ["row"] (defScope s_spots_of) := ⟨rfl, rfl, rfl, by decide +kernel, rfl, by decide +kernel, by decide +kernel⟩
abbrev P_spots_of (K : PySem.W.Frag) : Sp := Pr (List Str) (fun a => [dt a]) (fun a => rAny) (fun a => True)
theorem w_spots_of (T : Top K mg) : Has P w K mg base "spots_of" ["row"] 1 (P_spots_of K) := by
  obtain ⟨fd, F, g⟩ := T.fn 7 rfl rfl rfl
  refine has_of F g (F.bindsN fun _ _ _ _ _ _ us hl => match us, hl with | [_], _ => rfl) sc_spots_of (fun _ => rfl) ?_
  have nd := sc_spots_of.nd
  have b_dict := T.free 66
  have b_enumerate := T.free 67
  intro cdv A0 outer s H E hr row S vs D hS h hp q hn
  obtain ⟨v_row, _, rfl, h_row, rfl⟩ := h
  exact wss_one (ws_ret (Fp.refl hS) (ge_dictAny b_dict (ge_fmP n_s_spots_of (defScope s_spots_of) 1 2 (fun (y50 : (Int × Str)) => true) (fun (y50 : (Int × Str)) => (y50.2, y50.1)) rfl nd (gi_enum b_enumerate (ge_name 0 rfl h_row)) (by rw [numb_len]; exact (rep_small h_row)) (fun y50 va50 vb50 S50 hs50 hm50 ha50 hb50 _ _ _ _ _ => gts_nil) (fun y50 va50 vb50 S50 hs50 hm50 hp50 ha50 hb50 _ _ _ _ _ => (ge_pair (gA_cons (ge_name 2 rfl hb50) (gA_cons (ge_name 1 rfl ha50) gA_nil)))))) q)
abbrev n_s_Panel_init : List Str := ["self", "entries", "rows", "row"]
theorem sc_Panel_init : FnScope n_s_Panel_init ["self", "entries", "rows"] (defScope s_Panel_init) := ⟨rfl, rfl, rfl, by decide +kernel, rfl, by decide +kernel, by decide +kernel⟩
abbrev P_Panel_init (K : PySem.W.Frag) : Sp := PrI (cP K) (List Str × List (List Str)) (fun a => [dt a.1, dt a.2]) (fun a => pan K (srt a.1) a.2) (fun a => m_are_entries a.1 = true ∧ m_are_rows a.2 a.1 = true ∧ a.2 ≠ [])
theorem w_Panel_init (T : Top K mg) (c_check_entries : Has P w K mg base "check_entries" ["value"] 4 (P_check_entries K)) (c_are_rows : Has P w K mg base "are_rows" ["value", "entries"] 4 P_are_rows) (c_spots_of : Has P w K mg base "spots_of" ["row"] 1 (P_spots_of K)) : HasC P w K mg base "Panel" (cP K) ["self", "entries", "rows"] 5 (P_Panel_init K) := by
  obtain ⟨fd, F⟩ := T.mfn 59 rfl (x := "Panel") (m := "__init__") rfl
  refine hasC_of F T.gP T.mkP (F.bindsN fun _ _ _ _ _ _ us hl => match us, hl with | [_, _, _], _ => rfl) sc_Panel_init (fun _ => rfl) ?_
  have nd := sc_Panel_init.nd
  have b_sorted := T.free 64
  have b_list := T.free 63
  intro cdv A0 outer s H E hr ⟨entries, rows⟩ x dx Hb S us D n1 n2 n3 eH hS h hp q
  obtain ⟨v_entries, _, rfl, h_entries, v_rows, _, rfl, h_rows, rfl⟩ := h
  have f0 : Fp S Hb S H := by rw [eH]; exact made_fp hS n1 n2 n3
  have hx : H x = some (.ins (cP K) dx []) := by rw [eH]; exact upd_same
  have nx : S x = none := same_none hS n1
  refine wss_cons (ws_expr (ge_call rNon c_check_entries hr entries (gA_cons (ge_name 1 rfl h_entries) gA_nil) hp.1) f0.sh (fun _ S1 H1 f1 _ => wss_cons (ws_if (gt_w (gw_or (gt_not (gt_val (ge_call (dt (m_are_rows rows entries)) c_are_rows hr (rows, entries) (gA_cons (ge_name 2 rfl (Rep.mono f1.ss h_rows)) (gA_cons (ge_name 1 rfl (Rep.mono f1.ss h_entries)) gA_nil)) trivial))) fun _ => (gw_or1 (gt_eq hr (ge_name 2 rfl (Rep.mono f1.ss h_rows)) ge_nil)))) f1.sh (fun hk S2 H2 f2 => absurd hk (by simp [hp.2.1, hp.2.2])) (fun hk S2 H2 f2 => wss_nil ?_))))
  have x2 : H2 x = some (.ins (cP K) dx []) := (f1.trans f2).hh _ _ hx
  have nx2 : S2 x = none := (f1.trans f2).fr x nx (by rw [hx]; exact fun z => nomatch z)
  refine wss_cons (ws_fld T.clsP T.nP1 x2 nx2 (ge_name 0 rfl (show (rRef x).p S2 (.ref x) from rfl)) (ge_sorted hr b_sorted (ge_name 1 rfl (Rep.mono f2.ss (Rep.mono f1.ss h_entries)))) f2.sh (by decide) (fun w3 S3 H3 f3 nx3 h3 => ?_))
  have k3 : Fp S Hb S3 (upd H3 x (.ins (cP K) dx (putF "names" w3 []))) := (((f0.trans f1).trans f2).trans f3).mutD n1 nx3
  refine wss_cons (ws_fld T.clsP T.nP2 upd_same nx3 (ge_name 0 rfl (show (rRef x).p S3 (.ref x) from rfl)) (ge_map n_s_Panel_init (defScope s_Panel_init) 3 (fun (y51 : List Str) => y51) rfl nd (gi_list (ge_name 2 rfl (Rep.mono f3.ss (Rep.mono f2.ss (Rep.mono f1.ss h_rows))))) (rep_small (Rep.mono f3.ss (Rep.mono f2.ss (Rep.mono f1.ss h_rows)))) (fun y51 v51 S51 hs51 hm51 hv51 _ _ _ _ _ => (ge_list b_list (ge_name 3 rfl hv51)))) k3.sh (by show 1 < 1000; decide) (fun w4 S4 H4 f4 nx4 h4 => ?_))
  have k4 : Fp S Hb S4 (upd H4 x (.ins (cP K) dx (putF "orders" w4 (putF "names" w3 [])))) := (k3.trans f4).mutD n1 nx4
  refine wss_one (ws_fld T.clsP T.nP3 upd_same nx4 (ge_name 0 rfl (show (rRef x).p S4 (.ref x) from rfl)) (ge_mapAny n_s_Panel_init (defScope s_Panel_init) 3 rfl nd (gi_list (ge_name 2 rfl (Rep.mono f4.ss (Rep.mono f3.ss (Rep.mono f2.ss (Rep.mono f1.ss h_rows)))))) (rep_small h_rows) (fun y v S9 hs9 hm9 hv9 _ _ _ _ _ => (ge_call rAny c_spots_of hr y (gA_cons (ge_name 3 rfl hv9) gA_nil) trivial))) k4.sh (by show 2 < 1000; decide) (fun w5 S5 H5 f5 nx5 h5 => ?_))
  have k5 : Fp S Hb S5 (upd H5 x (.ins (cP K) dx (putF "spots" w5 (putF "orders" w4 (putF "names" w3 []))))) := (k4.trans f5).mutD n1 nx5
  refine q _ _ _ (k5.keepD n1 nx5 upd_same) (pan_of (X := { (cxOf CX0 P w K mg base n_s_Panel_init "Panel.__init__" (defScope s_Panel_init) x cdv A0 outer s H E) with }) (dx := dx) (v := w3) (l := w4) (u := w5) upd_same ?_ ?_)
  · exact Rep.mono (fun a u e => by rw [upd_ne (ne_of_none e nx5)]; exact e) (Rep.mono (f4.ss.trans f5.ss) h3)
  · exact Rep.mono (fun a u e => by rw [upd_ne (ne_of_none e nx5)]; exact e) (Rep.mono f5.ss (cast_rep (List.map_id' _) h4))
abbrev n_s_Book_init : List Str := ["self", "entries", "lines", "line"]
theorem sc_Book_init : FnScope n_s_Book_init ["self", "entries", "lines"] (defScope s_Book_init) := ⟨rfl, rfl, rfl, by decide +kernel, rfl, by decide +kernel, by decide +kernel⟩
abbrev P_Book_init (K : PySem.W.Frag) : Sp := PrI (cB K) (List Str × List Ln) (fun a => [dt a.1, dt a.2]) (fun a => bok K (srt a.1) (dd (srt a.2))) (fun a => m_are_entries a.1 = true ∧ ∀ ln ∈ a.2, m_is_line ln a.1 = true)
theorem w_Book_init (T : Top K mg) (c_are_entries : Has P w K mg base "are_entries" ["value"] 3 P_are_entries) (c_is_line : Has P w K mg base "is_line" ["value", "names"] 6 P_is_line) (c_copied : Has P w K mg base "copied" ["line"] 1 P_copied) : HasC P w K mg base "Book" (cB K) ["self", "entries", "lines"] 7 (P_Book_init K) := by
  obtain ⟨fd, F⟩ := T.mfn 62 rfl (x := "Book") (m := "__init__") rfl
  refine hasC_of F T.gB T.mkB (F.bindsN fun _ _ _ _ _ _ us hl => match us, hl with | [_, _, _], _ => rfl) sc_Book_init (fun _ => rfl) ?_
  have nd := sc_Book_init.nd
  have b_isinstance := T.free 62
  have b_sorted := T.free 64
  have b_list := T.free 63
  intro cdv A0 outer s H E hr ⟨entries, lines⟩ x dx Hb S us D n1 n2 n3 eH hS h hp q
  obtain ⟨v_entries, _, rfl, h_entries, v_lines, _, rfl, h_lines, rfl⟩ := h
  have f0 : Fp S Hb S H := by rw [eH]; exact made_fp hS n1 n2 n3
  have hx : H x = some (.ins (cB K) dx []) := by rw [eH]; exact upd_same
  have nx : S x = none := same_none hS n1
  refine wss_cons (ws_if (gt_not (gt_val (ge_call (dt (m_are_entries entries)) c_are_entries hr entries (gA_cons (ge_name 1 rfl h_entries) gA_nil) trivial))) f0.sh (fun hk S1 H1 f1 => absurd hk (by simp [hp.1])) (fun hk S1 H1 f1 => wss_nil (wss_cons (ws_if (gt_w (gw_or (gt_not (gt_val (ge_isi_list b_isinstance b_list (ge_name 2 rfl (Rep.mono f1.ss h_lines))))) fun _ => (gw_or1 (gt_ne hr (ge_flt n_s_Book_init (defScope s_Book_init) 3 (fun (y52 : Ln) => (!(m_is_line y52 entries))) rfl nd (gi_list (ge_name 2 rfl (Rep.mono f1.ss h_lines))) (rep_small (Rep.mono f1.ss h_lines)) (fun y52 v52 S52 hs52 hm52 hv52 _ _ _ _ _ => gts_one (gt_not (gt_val (ge_call (dt (m_is_line y52 entries)) c_is_line hr (y52, entries) (gA_cons (ge_name 3 rfl hv52) (gA_cons (ge_name 1 rfl (Rep.mono hs52 (Rep.mono f1.ss h_entries))) gA_nil)) trivial)))) (fun y52 v52 S52 hs52 hm52 hp52 hv52 _ _ _ _ _ => (ge_name 3 rfl hv52))) ge_nil)))) f1.sh (fun hk S2 H2 f2 => absurd hk ?no) (fun hk S2 H2 f2 => wss_nil ?_)))))
  case no =>
    have e : lines.filter (fun (y : Ln) => !(m_is_line y entries)) = [] := List.filter_eq_nil_iff.mpr (fun y hy => by simp [hp.2 y hy])
    simp [e]
  have x2 : H2 x = some (.ins (cB K) dx []) := (f1.trans f2).hh _ _ hx
  have nx2 : S2 x = none := (f1.trans f2).fr x nx (by rw [hx]; exact fun z => nomatch z)
  refine wss_cons (ws_fld T.clsB T.nB1 x2 nx2 (ge_name 0 rfl (show (rRef x).p S2 (.ref x) from rfl)) (ge_sorted hr b_sorted (ge_name 1 rfl (Rep.mono (f1.trans f2).ss h_entries))) f2.sh (by decide) (fun w3 S3 H3 f3 nx3 h3 => ?_))
  have k3 : Fp S Hb S3 (upd H3 x (.ins (cB K) dx (putF "names" w3 []))) := (((f0.trans f1).trans f2).trans f3).mutD n1 nx3
  refine wss_cons (ws_fldOwn T.clsB T.nB2 upd_same k3.sh nx3 (ge_name 0 rfl (show (rRef x).p S3 (.ref x) from rfl)) (by show 1 < 1000; decide) (fun l S4 H4 hl0 hne f4 nx4 nl4 el4 => ?_))
  have k4 : Fp S Hb S4 (upd H4 x (.ins (cB K) dx [("names", w3), ("told", .ref l)])) := (k3.trans f4).mutD n1 nx4
  have hlb : Hb l = none := same_none k3.hh hl0
  have k5 : Fp S Hb (upd S4 x (.ins (cB K) dx [("names", w3), ("told", .ref l)])) (upd H4 x (.ins (cB K) dx [("names", w3), ("told", .ref l)])) := k4.keepD n1 nx4 upd_same
  have s4 : Same S4 (upd S4 x (.ins (cB K) dx [("names", w3), ("told", .ref l)])) := fun a u e => by rw [upd_ne (ne_of_none e nx4)]; exact e
  have s5 : Same S (upd S4 x (.ins (cB K) dx [("names", w3), ("told", .ref l)])) := k5.ss
  have hw5 : Rep.rep (upd S4 x (.ins (cB K) dx [("names", w3), ("told", .ref l)])) w3 (srt entries) := Rep.mono (f4.ss.trans s4) h3
  have w0 : Own (γ := Ln) (upd S4 x (.ins (cB K) dx [("names", w3), ("told", .ref l)])) (upd H4 x (.ins (cB K) dx [("names", w3), ("told", .ref l)])) l [] :=
    ⟨by rw [upd_ne hne]; exact nl4, [], by rw [upd_ne hne]; exact el4, .nil⟩
  refine wss_one (ws_forA (M := NoM) 3 l (fun y => [some (.ref x), some v_entries, some v_lines, y]) (fun i ys => ys = ((srt lines).take i).foldl ddS []) PassesOwn.never rfl nd (fun z => z)
    (gi_list (ge_sorted hr b_sorted (ge_name 2 rfl (Rep.mono s5 h_lines)))) hlb k5.fm w0 rfl ?turn ?fin)
  case turn =>
    intro i z v ys S6 H6 hx6 s6 f6 w6 hI hz
    have xi : S6 x = some (.ins (cB K) dx [("names", w3), ("told", .ref l)]) := s6 _ _ upd_same
    have hw : Rep.rep S6 w3 (srt entries) := Rep.mono s6 hw5
    have hlen : ys.length ≤ i := by
      have h1 := dd_len ((srt lines).take i) []
      rw [← hI, List.length_take, List.length_nil] at h1
      omega
    have hi : i < 4000 := by
      have h1 := (List.getElem?_eq_some_iff.mp hx6).1
      rw [srt_len] at h1
      exact Nat.lt_of_lt_of_le h1 (rep_small h_lines)
    refine wss_one (ws_ifOwn w6 (by show _ ≤ 4000; omega) (fun S7 hs7 hl7 => (gt_ni hr (ge_name 3 rfl (Rep.mono hs7 hz)) (ge_btold T (ge_name 0 rfl (bok_of (X := (cxOf CX0 P w K mg base n_s_Book_init "Book.__init__" (defScope s_Book_init) x cdv A0 outer s H E)) (hs7 _ _ xi) (Rep.mono hs7 hw) hl7))))) f6.sh (fun hk S7 H7 f7 => ?_) (fun hk S7 H7 f7 => wss_nil ⟨S7, _, ys, f7.ss, f6.tp f7, w6.go f7, rfl, ?_⟩))
    · refine wss_one (ws_ownapp (y := m_copied z) (w6.go f7) (ge_fld (C := cB K) (fs := [("names", dt (srt entries)), ("told", rRef l)]) (r := rRef l) T.clsB T.nB2 (ge_name 0 rfl ⟨x, dx, [w3, .ref l], rfl, f7.ss _ _ xi, w3, _, rfl, Rep.mono f7.ss hw, .ref l, _, rfl, rfl, rfl⟩) (fun S ws hw => by obtain ⟨v1, _, rfl, h1, v2, _, rfl, h2, rfl⟩ := hw; exact ⟨v2, rfl, h2⟩)) (ge_call (dt (m_copied z)) c_copied hr z (gA_cons (ge_name 3 rfl (Rep.mono f7.ss hz)) gA_nil) trivial) f7.sh (by show _ < 4000; omega) (fun S8 H8 H9 f8 e9 w9 => ⟨S8, _, _, f7.ss.trans f8.ss, ?_, w9, rfl, ?_⟩))
      · obtain ⟨o, rfl⟩ := e9
        exact ((f6.tp f7).tp f8).mutD (.inl hlb) w9.no
      · rw [take_snoc hx6, List.foldl_append, ← hI]
        have hn : ¬ z ∈ ys := by simpa using hk
        exact (ddS_no hn).symm
    · rw [take_snoc hx6, List.foldl_append, ← hI]
      have hn : z ∈ ys := by simpa using hk
      exact (ddS_yes hn).symm
  case fin =>
    intro y ys S6 H6 s6 f6 w6 hI
    obtain ⟨acc, e1, e2⟩ := w6.ex
    rw [List.take_length] at hI
    have hz : ys.length ≤ most := by
      have h1 := dd_len (srt lines) []
      rw [← hI, List.length_nil, srt_len] at h1
      have h9 : lines.length ≤ most := rep_small h_lines
      omega
    have h3 : Rep.rep (upd S6 l (.lst acc)) (.ref l) (dd (srt lines)) := cast_rep hI (own_done w6.no e2 hz)
    have sL : Same S6 (upd S6 l (.lst acc)) := fun a u e => by rw [upd_ne (ne_of_none e w6.no)]; exact e
    exact q _ _ _ (f6.keepD hlb w6.no e1).fp (bok_of (X := (cxOf CX0 P w K mg base n_s_Book_init "Book.__init__" (defScope s_Book_init) x cdv A0 outer s H E)) (dx := dx) (v := w3) (l := .ref l) (sL _ _ (s6 _ _ upd_same)) (Rep.mono sL (Rep.mono s6 hw5)) h3)
end
end Cp
namespace Cp
open PySem PySem.Spec PyProof.Rows L2 PySem.Builtin
/-! ### == and != by an own __eq__ -/
theorem slot_objne : Slot "object" "__ne__" "object.__ne__" :=
  .of (owner := "object") (n := "__ne__") (by rw [typeLookup_type, builtinLookup_eq_fast]; kernel_rfl) (by decide +kernel) (by decide +kernel) (by decide +kernel) (.inl (by decide +kernel)) (by rw [isSubtype_type]; kernel_rfl)
section
variable {prog : Program} {w : World} {A A₀ : Around} {E : Value → Shared → Prop} {s : Shared} {K : PySem.W.Frag} {x C L f : Addr} {h₀ : Heap} {m : Str → Option Value} {ox : Obj} {od : Option Obj} {name : Str} {b tb : Value}
open PySem.W in
theorem ifBound_B {M : Model} {A : Around} {id : String} {args : List Value} {Q : Option Value → Shared → Prop} (X : K.In s.heap) (I : InstAt s.heap x ox C od) (hs : findIn K (.ref C) name = some (some (.builtin id))) (hb : ∀ self, bindSpecial (.builtin id) self = pure (.builtin id, [self]))
    (h : wpAny M A (call (.builtin id) (.ref x :: args)) (fun v => Q (some v)) E s) : wpAny M A (callSpecialIfBound? (.ref x) name args) Q E s := by
  simp only [callSpecialIfBound?, bindSpecialIfBound?]
  refine wpAny_holding (wpAny_bind (wpAny_bind (wpAny_bind (I.type.here ((looks_findIn X hs).here ?_)))))
  refine wpAny_bind (wpAny_askSetting (wpAny_ite ?_))
  have fin : wpAny M A (call (.builtin id) ([.ref x] ++ args) >>= fun v => pure (some v)) Q E s := wpAny_bind (wpAny_mono h (fun v s' h' => wpAny_pure h') fun _ _ h' => h')
  split
  · exact wpAny_bind ((Looks.of_pure (hb _)).here (wpAny_pure (by exact fin)))
  · exact wpAny_tryCatch (wpAny_bind ((Looks.of_pure (hb _)).here (wpAny_pure (by exact fin))))
open PySem.W in
theorem cmp_ne {Q : Value → Shared → Prop} (hu : A.units < cLine) (hu1 : A.in1.units < cLine) (F : Fr h₀ L s.heap m) (X₀ : K.In h₀) (I : InstAt s.heap x ox C od) (hb : Looks (model prog w) s.heap (typeOf b) tb) (hn : notFirst K C tb = true)
    (hm : mroIn K C (.type "object") = some true) (hne : findIn K (.ref C) "__ne__" = some (some (.builtin "object.__ne__"))) (hs : findIn K (.ref C) "__eq__" = some (some (.ref f))) (hf : isFn K (.ref f) = true)
    (h : wpAny (model prog w) A.in1 (call (.ref f) [.ref x, b]) (fun v s' => ∃ c, v = .bool c ∧ Q (.bool (!c)) s') E s) : wpAny (model prog w) A (richCompare .NotEq (.ref x) b) Q E s := by
  have X := X₀.keeps F.keep
  have obj : wpAny (model prog w) A (call (.builtin "object.__ne__") [.ref x, b]) (fun v s' => ∃ c, v = .bool (!c) ∧ Q (.bool (!c)) s') E s := by
    refine wpAny_call (codeAny_call_builtin slot_objne.plain PySem.F.cmpEntry_ne (check_slot (i := "object.__ne__") (owner := "object") (n := "__ne__") (by decide +kernel) (by decide +kernel) (I.type.andThen (looks_mroIn X hm)) (PySem.F.cmpArgs_ne _ _) ?_))
    unfold Builtin.«object.__ne__»
    refine wpAny_bind (m := slotArgs "__ne__" 1 _) (wpAny_pure ?_)
    refine wpAny_bind (m := cRoomFor _ _) (wpAny_cRoomFor hu1 ?_)
    refine wpAny_bind (m := callSpecialIfBound? (.ref x) (Str.ofString "__eq__") _) (ifBound_K X I hs hf (wpAny_mono h (fun r s' hq => ?_) fun _ _ y => y))
    obtain ⟨c, rfl, hq⟩ := hq
    refine wpAny_bind (m := truthy (.bool _)) (wpAny_truthy_bool ?_)
    exact wpAny_pure ⟨c, rfl, hq⟩
  have one : wpAny (model prog w) A (tryCompare (.ref x) (cmpInfo .NotEq).2.1 b) (fun r s' => ∃ v, r = some v ∧ Q v s') E s := by
    unfold tryCompare
    refine wpAny_bind (ifBound_B X I hne slot_objne.bind (wpAny_mono obj (fun v s' hv => ?_) fun _ _ e => e))
    obtain ⟨c, rfl, hv⟩ := hv
    exact wpAny_pure ⟨_, rfl, hv⟩
  unfold richCompare
  simp only [oneThing_ref]
  refine wpAny_holding (wpAny_bind (wpAny_cRoomFor hu ?_))
  refine wpAny_bind (I.type.here (wpAny_bind (hb.here ?_)))
  split
  · rename_i q
    have e : subIn K tb (.ref C) = some false := by
      rcases Bool.or_eq_true_iff.mp hn with e | e
      · rw [beq_iff_eq.mp e] at q; simp at q
      · exact beq_iff_eq.mp e
    refine wpAny_bind ((looks_subIn X e).here ?_)
    simp only [Bool.false_eq_true, if_false]
    refine wpAny_bind (wpAny_mono one (fun r s' z => ?_) fun _ _ e => e)
    obtain ⟨v, rfl, hq⟩ := z
    exact wpAny_pure hq
  · refine wpAny_bind (wpAny_pure ?_)
    simp only [Bool.false_eq_true, if_false]
    refine wpAny_bind (wpAny_mono one (fun r s' z => ?_) fun _ _ e => e)
    obtain ⟨v, rfl, hq⟩ := z
    exact wpAny_pure hq
end
/-- both instances of C, what the own == gives -/
def rOwn2 (C : Addr) (sp : Sp) (neg : Bool) : R2 := fun x y H Q => ∃ a b dx dy fs gs, x = .ref a ∧ y = .ref b ∧ H a = some (.ins C dx fs) ∧ H b = some (.ins C dy gs) ∧ sp [x, y] H (fun v H' => ∃ c, v = .bl c ∧ Q (.bl (if neg then !c else c)) H') (fun _ _ _ => False)
section
variable {X : Cx} {n : Nat} {f C : Addr} {fd : FuncData} {ps : List Str} {sp : Sp}
theorem op_eqOwn (F : FnOk X.prog X.w X.K X.mg X.base CX0 n f fd ps sp) (hs : PySem.W.findIn X.K (.ref C) "__eq__" = some (some (.ref f))) (hf : PySem.W.isFn X.K (.ref f) = true) (hb : Binds X.K fd ps []) (hr : Room n X.A) : OpR X (compareOp .Eq) (rOwn2 C sp false) := by
  intro pins s σ H x y v u Q I rx ry h
  obtain ⟨a, b, dx, dy, fs, gs, rfl, rfl, ha, hb', q⟩ := h
  cases rx
  cases ry
  obtain ⟨mA, J, _⟩ := ins_get I.hok ha
  obtain ⟨mB, J', _⟩ := ins_get I.hok hb'
  obtain ⟨od, J, _⟩ := J.look
  obtain ⟨od', J', _⟩ := J'.look
  obtain ⟨m, hF⟩ := I.fr
  refine PySem.W.cmp_ofEq (PySem.W.cmp_K (op := .Eq) (tb := .ref C) hr.units0 hF I.ok.mod.kin J J'.type (by simp [PySem.W.notFirst]) hs hf ?_)
  refine wpAny_mono (run_fn (us := [.ref a, .ref b]) (vs := [.ref a, .ref b]) F hr hb .nil pass0 I (.cons rfl (.cons rfl .nil)) q) (fun w s' z => ?_) fun _ _ x => x
  obtain ⟨z', H', I', rz, c, rfl, qz⟩ := z
  cases rz
  exact ⟨.bl c, H', I', rfl, qz⟩
theorem op_neOwn (F : FnOk X.prog X.w X.K X.mg X.base CX0 n f fd ps sp) (hne : PySem.W.findIn X.K (.ref C) "__ne__" = some (some (.builtin "object.__ne__"))) (hm : PySem.W.mroIn X.K C (.type "object") = some true) (hs : PySem.W.findIn X.K (.ref C) "__eq__" = some (some (.ref f))) (hf : PySem.W.isFn X.K (.ref f) = true) (hb : Binds X.K fd ps []) (hr : Room (n + 1) X.A) : OpR X (compareOp .NotEq) (rOwn2 C sp true) := by
  intro pins s σ H x y v u Q I rx ry h
  obtain ⟨a, b, dx, dy, fs, gs, rfl, rfl, ha, hb', hsp⟩ := h
  cases rx
  cases ry
  obtain ⟨mA, J, _⟩ := ins_get I.hok ha
  obtain ⟨mB, J', _⟩ := ins_get I.hok hb'
  obtain ⟨od, J, _⟩ := J.look
  obtain ⟨od', J', _⟩ := J'.look
  obtain ⟨m, hF⟩ := I.fr
  refine PySem.W.cmp_ofNotEq (cmp_ne (tb := .ref C) hr.units0 hr.in1.units0 hF I.ok.mod.kin J J'.type (by simp [PySem.W.notFirst]) hm hne hs hf ?_)
  have hl := F.len _ _ _ _ hsp
  have r2 : Vals [V.ref a, V.ref b] [Value.ref a, Value.ref b] := .cons rfl (.cons rfl .nil)
  refine wpAny_call (codeAny_mono (F.run X.A.in1 X.stack s H ⟨[.ref a, .ref b], []⟩ [.ref a, .ref b] [.ref a, .ref b] _ _ hr.in1 I.env0.in1 (by
    have := hb s [.ref a, .ref b] I.kIn (by simpa using hl)
    simpa using this) r2 hsp) fun r s' hq => ?_)
  cases r with
  | error e => exact pass0 pins σ H s e s' I hq
  | ok fl =>
    cases fl with
    | ret w =>
      obtain ⟨z, H', I', rz, c, ez, qz⟩ := I.after hq
      subst ez
      cases rz
      exact ⟨c, rfl, .bl (!c), H', I', rfl, qz⟩
    | next => exact False.elim hq
    | brk => exact False.elim hq
    | cont => exact False.elim hq
end
end Cp
namespace Cp
open PySem PySem.Spec PyProof.Rows L2
section
variable {P : Program} {w : World} {K : PySem.W.Frag} {mg : Str → Option Value} {base : Heap}
abbrev n_s_Book_eq : List Str := ["self", "other"]
theorem sc_Book_eq : FnScope n_s_Book_eq ["self", "other"] (defScope s_Book_eq) := ⟨rfl, rfl, rfl, by decide +kernel, rfl, by decide +kernel, by decide +kernel⟩
abbrev P_Book_eq (K : PySem.W.Frag) : Sp := Pr ((List Str × List Ln) × (List Str × List Ln)) (fun a => [bok K a.1.1 a.1.2, bok K a.2.1 a.2.2]) (fun a => dt (decide (a.1 = a.2))) (fun a => True)
theorem w_Book_eq (T : Top K mg) : HasM P w K mg base (cB K) "__eq__" ["self", "other"] 1 (P_Book_eq K) := by
  obtain ⟨fd, F⟩ := T.mfn 65 rfl (x := "Book") (m := "__eq__") rfl
  refine hasM_of F T.mB4 (F.bindsN fun _ _ _ _ _ _ us hl => match us, hl with | [_, _], _ => rfl) sc_Book_eq (fun _ => rfl) ?_
  have nd := sc_Book_eq.nd
  have b_isinstance := T.free 62
  intro cdv A0 outer s H E hr ⟨⟨n1, t1⟩, ⟨n2, t2⟩⟩ S vs D hS h hp q
  obtain ⟨v_self, _, rfl, h_self, v_other, _, rfl, h_other, rfl⟩ := h
  exact wss_one (ws_ret (Fp.refl hS) (ge_and (ge_isiC b_isinstance T.insB T.gB (ge_name 1 rfl h_other)) fun _ => (ge_one (ge_eq hr (ge_pair (gA_cons (ge_bnames T (ge_name 0 rfl h_self)) (gA_cons (ge_btold T (ge_name 0 rfl h_self)) gA_nil))) (ge_pair (gA_cons (ge_bnames T (ge_name 1 rfl h_other)) (gA_cons (ge_btold T (ge_name 1 rfl h_other)) gA_nil)))))) q)
/-! == and != of two books -/
section
variable {X : Cx} {σ : L2.St} {S H : Hp} {e a b : Expr} {pos : Pos} {n1 n2 : List Str} {t1 t2 : List Ln} {k k' : Nat} {ps : List Str}
theorem opd_bok {neg : Bool} : OpD (rOwn2 (cB X.K) (P_Book_eq X.K) neg) (bok X.K n1 t1) (bok X.K n2 t2) (dt (if neg then !decide ((n1, t1) = (n2, t2)) else decide ((n1, t1) = (n2, t2)))) S := fun S1 H1 x y _ d hx hy Q q => by
  obtain ⟨p1, d1, w1, rfl, h1, g1⟩ := id hx
  obtain ⟨p2, d2, w2, rfl, h2, g2⟩ := id hy
  refine ⟨p1, p2, d1, d2, _, _, rfl, rfl, d _ _ h1, d _ _ h2, ((n1, t1), (n2, t2)), S1, d, ⟨_, _, rfl, hx, _, _, rfl, hy, rfl⟩, trivial, fun v S' H' f h => ?_⟩
  have h : v = .bl (decide ((n1, t1) = (n2, t2))) := h
  exact ⟨_, h, q _ S' H' f rfl⟩
theorem ge_eqBk (T : Top X.K X.mg) (F : HasM X.prog X.w X.K X.mg X.base (cB X.K) "__eq__" ps k (P_Book_eq X.K)) (hr : Room k' X.A) (ha : GE X a σ S (bok X.K n1 t1)) (hb : GE X b σ S (bok X.K n2 t2)) (hk : k ≤ k' := by decide) : GE X (.Compare a [.Eq] [b] pos) σ S (dt (decide ((n1, t1) = (n2, t2)))) := by
  obtain ⟨f, fd, hM, hbd, G⟩ := F.ex
  exact ge_cmp (op_eqOwn G hM.at_ hM.fn hbd (hr.mono hk)) ha hb opd_bok (nomark _)
theorem gt_neBk (T : Top X.K X.mg) (F : HasM X.prog X.w X.K X.mg X.base (cB X.K) "__eq__" ps k (P_Book_eq X.K)) (hr : Room k' X.A) (ha : GE X a σ S (bok X.K n1 t1)) (hb : GE X b σ S (bok X.K n2 t2)) (hk : k + 1 ≤ k' := by decide) : GT X (.Compare a [.NotEq] [b] pos) σ S (!decide ((n1, t1) = (n2, t2))) := by
  obtain ⟨f, fd, hM, hbd, G⟩ := F.ex
  exact gt_cmp (op_neOwn G T.neB T.insB.hm hM.at_ hM.fn hbd (hr.mono hk)) ha hb opd_bok (nomark _)
end
/-! ### copies that are new -/
def freshLn (H0 S : Hp) (v : V) : Prop := ∃ p w q u, v = .ref p ∧ S p = some (.tup [w, .ref q, u]) ∧ H0 q = none
def freshLns (H0 S : Hp) (v : V) : Prop := ∃ l vs, v = .ref l ∧ H0 l = none ∧ S l = some (.lst vs) ∧ ∀ t ∈ vs, freshLn H0 S t
theorem freshLn.mono {H0 S S' : Hp} {v : V} (e : Same S S') (h : freshLn H0 S v) : freshLn H0 S' v := by
  obtain ⟨p, w, q, u, rfl, h1, h2⟩ := h
  exact ⟨p, w, q, u, rfl, e _ _ h1, h2⟩
theorem freshLn.ofb {H0 H1 S : Hp} {v : V} (e : Same H1 H0) (h : freshLn H0 S v) : freshLn H1 S v := by
  obtain ⟨p, w, q, u, rfl, h1, h2⟩ := h
  exact ⟨p, w, q, u, rfl, h1, same_none e h2⟩
def sp_copied : Sp := fun vs H Q _ => ∃ (ln : Ln) (S : Hp), Same S H ∧ All2 S [dt ln] vs ∧ ∀ v S' H', Fp S H S' H' → Rep.rep S' v ln → freshLn H S' v → Q v H'
def sp_lines (K : PySem.W.Frag) : Sp := fun vs H Q _ => ∃ (a : List Str × List Ln) (S : Hp), Same S H ∧ All2 S [bok K a.1 a.2] vs ∧ ∀ v S' H', Fp S H S' H' → Rep.rep S' v a.2 → freshLns H S' v → Q v H'
section
variable {X : Cx} {σ : L2.St} {S H : Hp} {a b c : Expr} {D : Ends} {ln : Ln} {p p2 pos pos2 : Pos} {x1 : Nat}
theorem ws_retF (b_list : X.mg "list" = none) (ga : GE X a σ S (dt ln.word)) (gb : ∀ S1, Same S S1 → GE X b σ S1 (dt ln.lot)) (gc : ∀ S1, Same S S1 → GE X c σ S1 (dt ln.who)) (hS : Same S H) (k : ∀ v S' H', Fp S H S' H' → Rep.rep S' v ln → freshLn H S' v → D.rt v H') (hg : Gl X "list" := by rfl)
    (s1 : starEach [a, .Call (.Name "list" p) [b] [] p2, c] X.env = (false, eval a X.env) :: starEach [.Call (.Name "list" p) [b] [] p2, c] X.env := by rfl) (s2 : starEach [.Call (.Name "list" p) [b] [] p2, c] X.env = (false, eval (.Call (.Name "list" p) [b] [] p2) X.env) :: starEach [c] X.env := by rfl)
    (s3 : starEach [c] X.env = (false, eval c X.env) :: starEach [] X.env := by rfl) (s4 : starEach [b] X.env = (false, eval b X.env) :: starEach [] X.env := by rfl) (hpl : (backTo p2 (starEach [] X.env)).any (·.1) = false := by rfl) :
    wS X (.Return (some (.Tuple [a, .Call (.Name "list" p) [b] [] p2, c] x1 pos2)) pos) D σ H := by
  refine of_ps (ps_ret (pe_tup (pa_cons wE.pe (pa_cons (pe_callTy call_list_of hg b_list boot_list' (pa_cons wE.pe pa_nil s4) (by decide) (by decide) s4 hpl) (pa_cons wE.pe pa_nil s3) s2) s1))) ?_
  refine ga S H (Same.refl _) hS _ fun v1 S1 H1 f1 g1 => ?_
  refine gb S1 f1.ss S1 H1 (Same.refl _) f1.sh _ fun v2 S2 H2 f2 g2 => ?_
  obtain ⟨p, ws, rfl, hp, hl, hrr⟩ := g2
  refine ⟨p, ws, rfl, .inl (SqL.of (f2.sh _ _ hp)), fun l hn => ?_⟩
  have n := Fp.new (o := .lst ws) f2.sh hn
  refine gc _ ((f1.trans f2).trans n).ss _ _ (Same.refl _) n.sh _ fun v3 S3 H3 f3 g3 => ?_
  refine ⟨(by show 3 ≤ sizeLine; decide), fun pp hpp => ?_⟩
  have n2 := Fp.new (o := .tup [v1, .ref l, v3]) f3.sh hpp
  have kk := (((f1.trans f2).trans n).trans f3).trans n2
  exact k _ _ _ kk ⟨pp, v1, .ref l, v3, rfl, upd_same, Rep.mono (((f2.trans n).trans f3).trans n2).ss g1, ⟨l, ws, rfl, n2.ss _ _ (f3.ss _ _ upd_same), hl, hrr.mono ((n.trans f3).trans n2).ss⟩, Rep.mono n2.ss g3⟩ ⟨pp, v1, l, v3, rfl, upd_same, same_none (f1.trans f2).hh hn⟩
end
theorem w_copied2 (T : Top K mg) : Has P w K mg base "copied" ["line"] 1 sp_copied := by
  obtain ⟨fd, F, g⟩ := T.fn 12 rfl rfl rfl
  have nd := sc_copied.nd
  have b_list := T.free 63
  refine ⟨_, fd, g, F.kp, F.bindsN fun _ _ _ _ _ _ us hl => match us, hl with | [_], _ => rfl, F.ok sc_copied (fun vs H Q E ⟨a, S, _, h, _⟩ => by rw [all2_len h]; rfl) fun cdv A0 outer s H vs Q E hr ⟨line, S, hS, h, q⟩ => ⟨_, (wSs.ps (X := (cxOf CX0 P w K mg base n_s_copied _ (defScope s_copied) _ cdv A0 outer s H E).nox)).nox, ?_⟩⟩
  obtain ⟨v_line, _, rfl, h_line, rfl⟩ := h
  exact wss_one (ws_retF b_list (ge_lnix0 (ge_name 0 rfl h_line)) (fun S1 s1 => ge_lnix1 (ge_name 0 rfl (Rep.mono s1 h_line))) (fun S1 s1 => ge_lnix2 (ge_name 0 rfl (Rep.mono s1 h_line))) hS q)
section
variable {X : Cx} {σ : L2.St} {S : Hp} {elt iter tg : Expr} {scope : Scope} {own : List (Str × Nat)} {xs : List Ln} {g : TG} {τ : List V → L2.St}
theorem go_lcF {wi : TI} (hz : xs.length ≤ most) (hi : ∀ S1 H1, Same S S1 → Same S1 H1 → ∀ R : It → Hp → Prop, (∀ J S2 H2, Fp S1 H1 S2 H2 → Src J S2 xs → R J H2) → wi σ H1 R)
    (ht : Tgt g (wipe σ (own.map (·.2))) (fun x : Ln => [dt x]) τ) (hw : ∀ ws, wipe (τ ws) (own.map (·.2)) = wipe σ (own.map (·.2)))
    (hf : ∀ (x : Ln) ws S1 H1, Same S1 H1 → All2 S1 [dt x] ws → ∀ s H C cl fp, ∀ Q : VK, (∀ v S2 H2, Fp S1 H1 S2 H2 → Rep.rep S2 v x → freshLn H1 S2 v → Q v H2) → wE (BX X scope s H C cl fp) elt (τ ws) H1 Q) :
    ∀ S1 H1, Same S S1 → Same S1 H1 → ∀ Q : VK, (∀ v S2 H2, Fp S1 H1 S2 H2 → Rep.rep S2 v xs → freshLns H1 S2 v → Q v H2) → tLc wi g tYes (bE X scope elt) (own.map (·.2)) σ H1 Q := fun S1 H1 c d Q q => by
  refine hi S1 H1 c d _ fun J S2 H2 f2 src D hD => ?_
  refine ⟨fun i m H => m = xs.length - i ∧ i ≤ xs.length ∧ ∃ S' acc, Fp S2 H2 S' H ∧ S' D = none ∧ H D = some (.lst acc) ∧ Reps S' acc (xs.take i) ∧ ∀ t ∈ acc, freshLn H1 S' t, ⟨xs.length, rfl, Nat.zero_le _, S2, [], Fp.newH f2.sh hD, same_none f2.sh hD, upd_same, .nil, by simp⟩, ?_⟩
  rintro i m H ⟨rfl, hi, S', acc, fi, nD, eD, hr, hfr⟩
  by_cases hlt : i < xs.length
  · refine .inr ⟨src.go i S' H fi.ss fi.sh hlt, fun H => i + 1 ≤ xs.length ∧ ∃ S' acc, Fp S2 H2 S' H ∧ S' D = none ∧ H D = some (.lst acc) ∧ Reps S' acc (xs.take (i + 1)) ∧ ∀ t ∈ acc, freshLn H1 S' t, fun H' q' => ⟨xs.length - (i + 1), by omega, rfl, q'⟩, fun v H' y => ?_⟩
    obtain ⟨S'', x, fy, hx, hv⟩ := src.yld i S' H v H' fi.ss fi.sh hlt y
    have nD2 : S'' D = none := fy.fr D nD (by rw [eD]; exact fun z => nomatch z)
    have e3 : H' D = some (.lst acc) := fy.hh D _ eD
    have hal : acc.length ≤ i := by
      rw [hr.len, List.length_take]; exact Nat.min_le_left _ _
    refine ht x v S'' H' hv fy.sh _ fun ws hws => ⟨hw ws, ?_⟩
    dsimp only [tYes]
    rw [if_pos rfl]
    refine fun s H0 C cl fp => hf x ws S'' H' fy.sh hws s H0 C cl fp _ fun y S4 H4 f4 hy hfy => ?_
    have nD4 : S4 D = none := f4.fr D nD2 (by rw [e3]; exact fun z => nomatch z)
    have hz' : xs.length ≤ 4000 := hz
    refine ⟨acc, f4.hh D _ e3, small_lt (show acc.length ≤ 4000 by omega), by omega, S4, acc ++ [y], ((fi.trans fy).trans f4).mutD hD nD4, nD4, upd_same, ?_, ?_⟩
    · rw [take_snoc hx]
      exact (hr.mono (fy.ss.trans f4.ss)).snoc hy
    · intro t htm
      rcases List.mem_append.mp htm with z1 | z1
      · exact (hfr t z1).mono (fy.ss.trans f4.ss)
      · rw [List.mem_singleton.mp z1]
        exact hfy.ofb ((f2.trans fi).trans fy).hh
  · have e : i = xs.length := by omega
    subst e
    refine .inl ⟨src.stop S' H fi.ss fi.sh, ?_⟩
    have n := (f2.trans (fi.keepD hD nD eD))
    rw [List.take_length] at hr
    have sD : Same S' (upd S' D (.lst acc)) := fun a u e => by rw [upd_ne (ne_of_none e nD)]; exact e
    exact q _ _ _ n ⟨D, acc, rfl, upd_same, hz, hr.mono sD⟩ ⟨D, acc, rfl, same_none f2.hh hD, upd_same, fun t htm => (hfr t htm).mono sD⟩
theorem ws_retLns {H : Hp} {D : Ends} {x : Str} {p3 tpos cpos pos : Pos} (N : List Str) (sc : Scope) (j : Nat) (hc : X.calm = true) (hN : X.N.Nodup) (hi : GI X (.Name x tpos) iter σ S xs) (hz : xs.length ≤ most)
    (he : ∀ s H C cl fp, PE (BX X scope s H C cl fp) elt (tCall sp_copied [] (fun _ _ _ => False) (tCons (wE (BX X scope s H C cl fp) (.Name x p3)) tNil)))
    (hv : ∀ (y : Ln) v S1, Rep.rep S1 v y → ∀ s H C cl fp, GE (BX X scope s H C cl fp) (.Name x p3) ((wipe σ [j]).set j (some v)) S1 (dt y)) (hS : Same S H) (k : ∀ v S' H', Fp S H S' H' → Rep.rep S' v xs → freshLns H S' v → D.rt v H')
    (hg : ∀ s H C cl fp, PG (BX X scope s H C cl fp) (.Name x tpos) (gName j) := by first | exact fun _ _ _ _ _ => pg_name (by assumption) rfl (Or.inl rfl) | exact fun _ _ _ _ _ => pg_name (by assumption) rfl (Or.inr rfl)) (hw : ∀ ws : List V, wipe ((wipe σ [j]).set j ws.head?) [j] = wipe σ [j] := by intro _; rfl)
    (hs : ∀ x, foldedSetIterable iter X.env x = pure x := by intro _; rfl) (eN : X.N = N := by rfl) (eS : X.env.scope = sc := by rfl) (ok : blkC N sc scope [(x, j)] = true := by decide +kernel) :
    wS X (.Return (some (.ListComp elt [⟨.Name x tpos, iter, [], 0⟩] scope cpos)) pos) D σ H := by
  obtain ⟨wi, pi, gi⟩ := hi
  refine of_ps (ps_ret (pe_lc hc hN pi (blkOk_by (own := [(x, j)]) (by rw [eN, eS]; exact ok)) hg (fun _ _ _ _ _ => pts_nil) pe_b hs)) ?_
  refine go_lcF (own := [(x, j)]) hz gi (tgt_name j) hw (fun y ws S1 H1 hS1 hws s H0 C cl fp Q2 q2 => ?_) S H (Same.refl _) hS _ (fun v S' H' f h1 h2 => k v S' H' f h1 h2)
  obtain ⟨v, _, rfl, hv1, rfl⟩ := hws
  refine fun pins s' I => (he s H0 C cl fp).run pins s' _ _ _ I ?_
  refine hv y v S1 hv1 s H0 C cl fp S1 H1 (Same.refl _) hS1 _ fun u S2 H2 f2 hu => ?_
  exact ⟨y, S2, f2.sh, ⟨u, _, rfl, hu, rfl⟩, fun v S' H' f3 h1 h2 => q2 v S' H' (f2.trans f3) h1 (h2.ofb f2.hh)⟩
end
abbrev n_s_Book_lines : List Str := ["self", "line"]
theorem sc_Book_lines : FnScope n_s_Book_lines ["self"] (defScope s_Book_lines) := ⟨rfl, rfl, rfl, by decide +kernel, rfl, by decide +kernel, by decide +kernel⟩
abbrev P_Book_lines (K : PySem.W.Frag) : Sp := Pr (List Str × List Ln) (fun a => [bok K a.1 a.2]) (fun a => dt a.2) (fun a => True)
theorem w_Book_lines2 (T : Top K mg) (c_copied : Has P w K mg base "copied" ["line"] 1 sp_copied) : HasM P w K mg base (cB K) "lines" ["self"] 2 (sp_lines K) := by
  obtain ⟨fd, F⟩ := T.mfn 64 rfl (x := "Book") (m := "lines") rfl
  have nd := sc_Book_lines.nd
  obtain ⟨f, fd2, hm, kp, hb, G⟩ := c_copied.ex
  refine ⟨_, fd, T.mB3, F.bindsN fun _ _ _ _ _ _ us hl => match us, hl with | [_], _ => rfl, F.ok (k := 1) sc_Book_lines (fun vs H Q E ⟨a, S, _, h, _⟩ => by rw [all2_len h]; rfl) fun cdv A0 outer s H vs Q E hr ⟨⟨names, told⟩, S, hS, h, q⟩ => ⟨_, (wSs.ps (X := (cxOf CX0 P w K mg base n_s_Book_lines _ (defScope s_Book_lines) _ cdv A0 outer s H E).nox)).nox, ?_⟩⟩
  obtain ⟨v_self, _, rfl, h_self, rfl⟩ := h
  exact wss_one (ws_retLns n_s_Book_lines (defScope s_Book_lines) 1 rfl nd (gi_list (ge_btold T (ge_name 0 rfl h_self))) (szt T h_self) (fun _ _ _ _ _ => pe_call G (hr.mono (by decide)) rfl hm kp hb .nil pass0 (pa_cons wE.pe pa_nil rfl) (by decide) rfl rfl)
    (fun y v S9 hv9 _ _ _ _ _ => ge_name 1 rfl hv9) hS q)
theorem w_Book_lines (c_lines : HasM P w K mg base (cB K) "lines" ["self"] 2 (sp_lines K)) : HasM P w K mg base (cB K) "lines" ["self"] 2 (P_Book_lines K) := by
  obtain ⟨f, fd, hM, hb, G⟩ := c_lines.ex
  exact ⟨f, fd, hM, hb, G.imp fun vs H Q E ⟨a, S, hS, h, _, q⟩ => ⟨a, S, hS, h, fun v S' H' f h1 _ => q v S' H' f h1⟩⟩
abbrev n_s_all_lots : List Str := ["panel", "rows", "entry"]
theorem sc_all_lots : FnScope n_s_all_lots ["panel"] (defScope s_all_lots) := ⟨rfl, rfl, rfl, by decide +kernel, rfl, by decide +kernel, by decide +kernel⟩
abbrev P_all_lots (K : PySem.W.Frag) : Sp := Pr (List Str × List (List Str)) (fun a => [pan K a.1 a.2]) (fun a => rMap a.1 (fun n => m_lots_in a.2 n)) (fun a => a.2.length ≤ 20 ∧ ∀ n ∈ a.1, ∀ row ∈ a.2, n ∈ row)
theorem w_all_lots (T : Top K mg) (c_lots_in : Has P w K mg base "lots_in" ["rows", "entry"] 3 P_lots_in) (c_Panel_entries : HasM P w K mg base (cP K) "entries" ["self"] 1 (P_Panel_entries K)) (c_Panel_rows : HasM P w K mg base (cP K) "rows" ["self"] 1 (P_Panel_rows K)) : Has P w K mg base "all_lots" ["panel"] 4 (P_all_lots K) := by
  obtain ⟨fd, F, g⟩ := T.fn 22 rfl rfl rfl
  refine has_of F g (F.bindsN fun _ _ _ _ _ _ us hl => match us, hl with | [_], _ => rfl) sc_all_lots (fun _ => rfl) ?_
  have nd := sc_all_lots.nd
  intro cdv A0 outer s H E hr ⟨names, rows⟩ S vs D hS h hp q hn
  obtain ⟨v_panel, _, rfl, h_panel, rfl⟩ := h
  exact wss_cons (ws_set 1 (ge_meth0 (dt rows) c_Panel_rows T.clsP hr (names, rows) (ge_name 0 rfl h_panel) rfl trivial no_fldP) hS (fun v1 S1 H1 f1 h1 => wss_one (ws_ret f1 (ge_dc n_s_all_lots (defScope s_all_lots) 2 (fun n => m_lots_in rows n) rfl nd (gi_list (ge_meth0 (dt names) c_Panel_entries T.clsP hr (names, rows) (ge_name 0 rfl ((pan K names rows).m f1.ss h_panel)) rfl trivial no_fldP)) (szn T h_panel) (fun y v S9 hs9 hm9 hv9 _ _ _ _ _ => (ge_name 2 rfl hv9)) (fun y v S9 hs9 hm9 hv9 _ _ _ _ _ => (ge_call (dt (m_lots_in rows y)) c_lots_in hr (rows, y) (gA_cons (ge_name 1 rfl (Rep.mono hs9 h1)) (gA_cons (ge_name 2 rfl hv9) gA_nil)) ⟨hp.1, hp.2 y hm9⟩))) q)) nd)
abbrev n_s_lots_of : List Str := ["panel"]
theorem sc_lots_of : FnScope n_s_lots_of ["panel"] (defScope s_lots_of) := ⟨rfl, rfl, rfl, by decide +kernel, rfl, by decide +kernel, by decide +kernel⟩
abbrev P_lots_of (K : PySem.W.Frag) : Sp := Pr (List Str × List (List Str)) (fun a => [pan K a.1 a.2]) (fun a => rMap a.1 (fun n => m_lots_in a.2 n)) (fun a => a.2.length ≤ 20 ∧ ∀ n ∈ a.1, ∀ row ∈ a.2, n ∈ row)
theorem w_lots_of (T : Top K mg) (c_check_panel : Has P w K mg base "check_panel" ["value"] 1 (P_check_panel K)) (c_all_lots : Has P w K mg base "all_lots" ["panel"] 4 (P_all_lots K)) : Has P w K mg base "lots_of" ["panel"] 5 (P_lots_of K) := by
  obtain ⟨fd, F, g⟩ := T.fn 23 rfl rfl rfl
  refine has_of F g (F.bindsN fun _ _ _ _ _ _ us hl => match us, hl with | [_], _ => rfl) sc_lots_of (fun _ => rfl) ?_
  have nd := sc_lots_of.nd
  intro cdv A0 outer s H E hr ⟨names, rows⟩ S vs D hS h hp q hn
  obtain ⟨v_panel, _, rfl, h_panel, rfl⟩ := h
  exact wss_cons (ws_expr (ge_call rNon c_check_panel hr (names, rows) (gA_cons (ge_name 0 rfl h_panel) gA_nil) trivial) hS (fun _ S1 H1 f1 _ => wss_one (ws_ret f1 (ge_call (rMap names (fun n => m_lots_in rows n)) c_all_lots hr (names, rows) (gA_cons (ge_name 0 rfl ((pan K names rows).m f1.ss h_panel)) gA_nil) hp) q)))
def offLn (x : Str) (z : List Str) : Ln := ⟨"off", z, x⟩
def stepW (names : List Str) (rows : List (List Str)) (acc : List Ln) (x : Str) : List Ln := (acc ++ (m_lots_in rows x).map (callLn names x)) ++ (m_least_meeting (m_lots_in rows x)).map (offLn x)
def wholeL (names : List Str) (rows : List (List Str)) : List Ln := names.foldl (stepW names rows) []
def m_told (names : List Str) (rows : List (List Str)) : List Ln := dd (srt (wholeL names rows))
structure WPre (names : List Str) (rows : List (List Str)) : Prop where
  nl : names.length ≤ 4
  rl : rows.length ≤ 20
  mem : ∀ n ∈ names, ∀ row ∈ rows, n ∈ row
  lm : ∀ n ∈ names, (∀ lot ∈ m_lots_in rows n, m_is_ascending lot = true) ∧ (m_names_in (m_lots_in rows n)).length ≤ 4 ∧ ((m_lots_in rows n).map List.length).sum ≤ 1000
  ent : m_are_entries names = true
  ln : ∀ ln ∈ wholeL names rows, m_is_line ln names = true
theorem mlots_len (rows : List (List Str)) (n : Str) : (m_lots_in rows n).length ≤ rows.length := by
  unfold m_lots_in m_least_of
  refine Nat.le_trans (List.length_filter_le _ _) ?_
  rw [List.length_map]
  refine Nat.le_trans (sset_len _) ?_
  rw [List.length_map, List.length_map]
  exact Nat.le_refl _
theorem meeting_len {lots : List (List Str)} (h : (m_names_in lots).length ≤ 4) (h2 : m_least_meeting lots = m_meeting lots) : (m_least_meeting lots).length ≤ 16 := by
  rw [h2]
  unfold m_meeting
  rw [srt_len, List.length_map]
  refine Nat.le_trans (List.length_filter_le _ _) ?_
  rw [upto_len]
  unfold m_doubled
  rw [Int.toNat_natCast]
  have h3 : (2 : Nat) ^ (m_names_in lots).length ≤ 2 ^ 4 := Nat.pow_le_pow_right (by decide) h
  have h4 : ((2 : Int) ^ (m_names_in lots).length).toNat = 2 ^ (m_names_in lots).length := by
    have : ((2 : Int) ^ (m_names_in lots).length) = ((2 ^ (m_names_in lots).length : Nat) : Int) := by simp
    rw [this, Int.toNat_natCast]
  rw [h4]
  exact h3
theorem stepW_len {names : List Str} {rows : List (List Str)} (hr : rows.length ≤ 20) (h : ∀ n ∈ names, (m_least_meeting (m_lots_in rows n)).length ≤ 16) (ns : List Str) : (∀ n ∈ ns, n ∈ names) → ∀ acc : List Ln, (ns.foldl (stepW names rows) acc).length ≤ acc.length + ns.length * 36 := by
  induction ns with
  | nil => intro _ acc; simp
  | cons n ns ih =>
    intro hn acc
    refine Nat.le_trans (ih (fun m hm => hn m (List.mem_cons_of_mem _ hm)) _) ?_
    have h1 := mlots_len rows n
    have h2 := h n (hn n List.mem_cons_self)
    have h3 : (stepW names rows acc n).length ≤ acc.length + 36 := by
      unfold stepW
      rw [List.length_append, List.length_append, List.length_map, List.length_map]
      omega
    rw [List.length_cons, Nat.succ_mul]
    omega
abbrev n_s_whole_book : List Str := ["panel", "entry", "names", "lots", "lines", "lot", "name"]
theorem sc_whole_book : FnScope n_s_whole_book ["panel"] (defScope s_whole_book) := ⟨rfl, rfl, rfl, by decide +kernel, rfl, by decide +kernel, by decide +kernel⟩
abbrev P_whole_book (K : PySem.W.Frag) : Sp := Pr (List Str × List (List Str)) (fun a => [pan K a.1 a.2]) (fun a => bok K (srt a.1) (m_told a.1 a.2)) (fun a => WPre a.1 a.2)
theorem w_whole_book (T : Top K mg) (c_Panel_entries : HasM P w K mg base (cP K) "entries" ["self"] 1 (P_Panel_entries K)) (c_lots_of : Has P w K mg base "lots_of" ["panel"] 5 (P_lots_of K)) (c_least_meeting : Has P w K mg base "least_meeting" ["lots"] 4 P_least_meeting) (c_Book : HasC P w K mg base "Book" (cB K) ["self", "entries", "lines"] 7 (P_Book_init K)) : Has P w K mg base "whole_book" ["panel"] 9 (P_whole_book K) := by
  obtain ⟨fd, F, g⟩ := T.fn 31 rfl rfl rfl
  refine has_of F g (F.bindsN fun _ _ _ _ _ _ us hl => match us, hl with | [_], _ => rfl) sc_whole_book (fun _ => rfl) ?_
  have nd := sc_whole_book.nd
  intro cdv A0 outer s H E hr ⟨names, rows⟩ S vs D hS h hp q hn
  obtain ⟨v_panel, _, rfl, h_panel, rfl⟩ := h
  have hLM : ∀ n ∈ names, m_least_meeting (m_lots_in rows n) = m_meeting (m_lots_in rows n) := fun n hn => by
    have e : (m_lots_in rows n).filter (fun y => !(m_is_ascending y)) = [] := List.filter_eq_nil_iff.mpr (fun y hy => by simp [(hp.lm n hn).1 y hy])
    unfold m_least_meeting
    first | rfl | simp [e]
  have hM16 : ∀ n ∈ names, (m_least_meeting (m_lots_in rows n)).length ≤ 16 := fun n hn => meeting_len (hp.lm n hn).2.1 (hLM n hn)
  have hnl : names.length ≤ 4 := hp.nl
  have hrl : rows.length ≤ 20 := hp.rl
  refine wss_cons (ws_par3O 2 3 4 rfl nd (ge_meth0 (dt names) c_Panel_entries T.clsP hr (names, rows) (ge_name 0 rfl h_panel) rfl trivial no_fldP) (ge_call (rMap names (fun n => m_lots_in rows n)) c_lots_of hr (names, rows) (gA_cons (ge_name 0 rfl h_panel) gA_nil) ⟨hp.rl, hp.mem⟩) hS (fun v1 v2 l S1 H1 H1' f1 h1 h2 nl1 eH => ?_))
  subst eH
  have nl : H l = none := same_none f1.hh nl1
  have F0 : Fm NoM S H S1 (upd H1 l (.lst [])) := (f1.trans (Fp.newH f1.sh nl1)).fm
  have w0 : Own (γ := Ln) S1 (upd H1 l (.lst [])) l [] := ⟨same_none f1.sh nl1, [], upd_same, .nil⟩
  refine wss_cons (ws_forAG (M := NoM) (γ := Ln) (B := Option V) 1 l (fun b y => [some v_panel, y, some v1, some v2, some (.ref l), b, none]) (fun i ys => ys = (names.take i).foldl (stepW names rows) []) (b0 := none) PassesOwn.never rfl nd (gi_list (ge_name 2 rfl h1)) F0 w0 rfl ?turn ?fin)
  case turn =>
    intro i x v b ys S2 H2 hx s2 f2 w2 hI hv
    have hxm : x ∈ names := List.mem_of_getElem? hx
    have hi : i < 4 := Nat.lt_of_lt_of_le (List.getElem?_eq_some_iff.mp hx).1 hnl
    have hlen : ys.length ≤ 4 * 36 := by
      have h1 := stepW_len hrl hM16 (names.take i) (fun n hn => List.mem_of_mem_take hn) []
      rw [← hI, List.length_take, List.length_nil] at h1
      have h2 : min i names.length ≤ 4 := by omega
      omega
    have hll := mlots_len rows x
    have hm16 := hM16 x hxm
    refine wss_cons (ws_forAG (M := NoM) (γ := Ln) (B := Unit) 5 l (fun _ y => [some v_panel, some v, some v1, some v2, some (.ref l), y, none]) (fun j zs => zs = ys ++ ((m_lots_in rows x).take j).map (callLn names x)) (b0 := ()) PassesOwn.never rfl nd
      (gi_list (ge_dget hr (ge_name 3 rfl ((rMap names (fun n => m_lots_in rows n)).m s2 h2)) (ge_name 1 rfl hv) hxm)) f2 w2 (by simp) ?turn2 ?fin2)
    case turn2 =>
      intro j z vz _ zs S5 H5 hz5 s5 f5 w5 hJ hz
      have hzl : zs.length < most := by
        rw [hJ, List.length_append, List.length_map, List.length_take]
        show _ < 4000
        omega
      refine wss_one (ws_ownapp (y := callLn names x z) w5 (ge_name 4 rfl (show (rRef l).p S5 (.ref l) from rfl)) (ge_ln (gA_cons ge_str (gA_cons (ge_flt n_s_whole_book (defScope s_whole_book) 6 (fun (y53 : Str) => (!decide (y53 ∈ z))) rfl nd (gi_list (ge_name 2 rfl (Rep.mono (s2.trans s5) h1))) (rep_small (Rep.mono (s2.trans s5) h1)) (fun y53 v53 S53 hs53 hm53 hv53 _ _ _ _ _ => gts_one (gt_ni hr (ge_name 6 rfl hv53) (ge_name 5 rfl (Rep.mono hs53 hz)))) (fun y53 v53 S53 hs53 hm53 hp53 hv53 _ _ _ _ _ => (ge_name 6 rfl hv53))) (gA_cons (ge_name 1 rfl (Rep.mono s5 hv)) gA_nil)))) f5.sh hzl (fun S6 H6 H7 f6 e7 w6 => ⟨S6, (), _, _, f6.ss, ?_, w6, rfl, ?_⟩))
      · obtain ⟨o, rfl⟩ := e7
        exact (f5.tp f6).mutD (.inl nl) w6.no
      · rw [take_snoc hz5, List.map_append, hJ, List.append_assoc]; rfl
    case fin2 =>
      intro _ y zs S5 H5 s5 f5 w5 hJ
      rw [List.take_length] at hJ
      have hzlen : zs.length ≤ 4 * 36 + 20 := by
        rw [hJ, List.length_append, List.length_map]
        omega
      refine wss_one (ws_forAG (M := NoM) (γ := Ln) (B := Unit) 5 l (fun _ y => [some v_panel, some v, some v1, some v2, some (.ref l), y, none]) (fun j us => us = zs ++ ((m_least_meeting (m_lots_in rows x)).take j).map (offLn x)) (b0 := ()) PassesOwn.never rfl nd
        (gi_list (ge_call (dt (m_least_meeting (m_lots_in rows x))) c_least_meeting hr (m_lots_in rows x) (gA_cons (ge_dget hr (ge_name 3 rfl ((rMap names (fun n => m_lots_in rows n)).m (s2.trans s5) h2)) (ge_name 1 rfl (Rep.mono s5 hv)) hxm) gA_nil) ⟨⟨Nat.le_trans (hp.lm x hxm).2.1 (by decide), (hp.lm x hxm).2.2⟩, (hp.lm x hxm).1⟩)) f5 w5 (by simp) ?turn3 ?fin3)
      case turn3 =>
        intro j z vz _ us S7 H7 hz7 s7 f7 w7 hJ7 hz
        have hzl : us.length < most := by
          rw [hJ7, List.length_append, List.length_map, List.length_take]
          show _ < 4000
          omega
        refine wss_one (ws_ownapp (y := offLn x z) w7 (ge_name 4 rfl (show (rRef l).p S7 (.ref l) from rfl)) (ge_ln (gA_cons ge_str (gA_cons (ge_name 5 rfl hz) (gA_cons (ge_name 1 rfl (Rep.mono (s5.trans s7) hv)) gA_nil)))) f7.sh hzl (fun S8 H8 H9 f8 e9 w8 => ⟨S8, (), _, _, f8.ss, ?_, w8, rfl, ?_⟩))
        · obtain ⟨o, rfl⟩ := e9
          exact (f7.tp f8).mutD (.inl nl) w8.no
        · rw [take_snoc hz7, List.map_append, hJ7, List.append_assoc]; rfl
      case fin3 =>
        intro _ y2 us S7 H7 s7 f7 w7 hJ7
        rw [List.take_length] at hJ7
        exact ⟨S7, y2, some v, _, s5.trans s7, f7, w7, rfl, by rw [take_snoc hx, List.foldl_append, ← hI, hJ7, hJ]; rfl⟩
  case fin =>
    intro b y ys S2 H2 s2 f2 w2 hI
    obtain ⟨acc, e1, e2⟩ := w2.ex
    rw [List.take_length] at hI
    have hz : ys.length ≤ most := by
      have h1 := stepW_len hrl hM16 names (fun n hn => hn) []
      rw [← hI, List.length_nil] at h1
      show _ ≤ 4000
      omega
    have sL : Same S2 (upd S2 l (.lst acc)) := fun a u e => by rw [upd_ne (ne_of_none e w2.no)]; exact e
    have h3 : Rep.rep (upd S2 l (.lst acc)) (.ref l) (wholeL names rows) := cast_rep hI (own_done w2.no e2 hz)
    have f3 := (f2.keepD nl w2.no e1).fp
    exact wss_one (ws_ret f3 (ge_make (bok K (srt names) (m_told names rows)) c_Book hr (names, wholeL names rows) (gA_cons (ge_name 2 rfl (Rep.mono (s2.trans sL) h1)) (gA_cons (ge_name 4 rfl h3) gA_nil)) ⟨hp.ent, hp.ln⟩) q)
abbrev n_s_book_of : List Str := ["panel"]
theorem sc_book_of : FnScope n_s_book_of ["panel"] (defScope s_book_of) := ⟨rfl, rfl, rfl, by decide +kernel, rfl, by decide +kernel, by decide +kernel⟩
abbrev P_book_of (K : PySem.W.Frag) : Sp := Pr (List Str × List (List Str)) (fun a => [pan K a.1 a.2]) (fun a => bok K (srt a.1) (m_told a.1 a.2)) (fun a => WPre a.1 a.2)
theorem w_book_of (T : Top K mg) (c_check_panel : Has P w K mg base "check_panel" ["value"] 1 (P_check_panel K)) (c_whole_book : Has P w K mg base "whole_book" ["panel"] 9 (P_whole_book K)) : Has P w K mg base "book_of" ["panel"] 10 (P_book_of K) := by
  obtain ⟨fd, F, g⟩ := T.fn 32 rfl rfl rfl
  refine has_of F g (F.bindsN fun _ _ _ _ _ _ us hl => match us, hl with | [_], _ => rfl) sc_book_of (fun _ => rfl) ?_
  have nd := sc_book_of.nd
  intro cdv A0 outer s H E hr ⟨names, rows⟩ S vs D hS h hp q hn
  obtain ⟨v_panel, _, rfl, h_panel, rfl⟩ := h
  exact wss_cons (ws_expr (ge_call rNon c_check_panel hr (names, rows) (gA_cons (ge_name 0 rfl h_panel) gA_nil) trivial) hS (fun _ S1 H1 f1 _ => wss_one (ws_ret f1 (ge_call (bok K (srt names) (m_told names rows)) c_whole_book hr (names, rows) (gA_cons (ge_name 0 rfl ((pan K names rows).m f1.ss h_panel)) gA_nil) hp) q)))
end
end Cp
namespace Cp
open PySem PySem.Spec PyProof.Rows L2
/-! ### the purse: a list of four numbers that its draws change; k: draws it still may give -/
structure Pu (S H : Hp) (P : Addr) (k : Nat) : Prop where
  no : S P = none
  ex : ∃ a b c d : Int, H P = some (.lst [.int a, .int b, .int c, .int d]) ∧ 0 ≤ a ∧ 0 ≤ b ∧ b < 2147483629 ∧ 0 ≤ c ∧ c + k ≤ 100000 ∧ 0 ≤ d ∧ d ≤ 10
abbrev MP (P : Addr) : Addr → Prop := fun a => a = P
/-- just this value -/
def rVal (w : V) : Rl := ⟨fun _ v => v = w, fun _ h => h⟩
/-- some value of a kind -/
def rEx {α : Type} [Rep α] (p : α → Prop) : Rl := ⟨fun S v => ∃ x, p x ∧ Rep.rep S v x, fun e h => by obtain ⟨x, h1, h2⟩ := h; exact ⟨x, h1, Rep.mono e h2⟩⟩
section
variable {S H S' H' S1 H1 S2 H2 : Hp} {P l : Addr} {k k' k1 k2 : Nat}
theorem Pu.live (p : Pu S H P k) : H P ≠ none := by
  obtain ⟨a, b, c, d, h, _⟩ := p.ex
  rw [h]; exact fun z => nomatch z
theorem Pu.go (p : Pu S H P k) (f : Fp S H S' H') : Pu S' H' P k := by
  obtain ⟨a, b, c, d, h, r⟩ := p.ex
  exact ⟨f.fr P p.no p.live, a, b, c, d, f.hh _ _ h, r⟩
theorem Pu.le (p : Pu S H P k) (h : k' ≤ k) : Pu S H P k' := by
  obtain ⟨a, b, c, d, h0, h1, h2, h3, h4, h5, h6⟩ := p.ex
  exact ⟨p.no, a, b, c, d, h0, h1, h2, h3, h4, by omega, h6⟩
theorem Pu.ne {HO0 : List V} (p : Pu S H P k) (h : H l = some (.lst HO0)) (hq : ∀ i, HO0.head? ≠ some (.int i)) : l ≠ P := by
  rintro rfl
  obtain ⟨a, b, c, d, h0, _⟩ := p.ex
  rw [h0] at h
  cases h
  exact hq a rfl
theorem Pu.sub (p : Pu S' H P k) (h : Same S S') : Pu S H P k := ⟨same_none h p.no, p.ex⟩
end
def GoM (t : TE) (σ : L2.St) (S : Hp) (P : Addr) (k k' : Nat) (r : Rl) : Prop := ∀ S1 H1, Same S S1 → Same S1 H1 → Pu S1 H1 P k → ∀ Q : VK, (∀ v S2 H2, Fm (MP P) S1 H1 S2 H2 → Pu S2 H2 P k' → r.p S2 v → Q v H2) → t σ H1 Q
def GoAM (t : TA) (σ : L2.St) (S : Hp) (P : Addr) (k k' : Nat) (rs : List Rl) : Prop := ∀ S1 H1, Same S S1 → Same S1 H1 → Pu S1 H1 P k → ∀ Q : List V → Hp → Prop, (∀ vs S2 H2, Fm (MP P) S1 H1 S2 H2 → Pu S2 H2 P k' → All2 S2 rs vs → Q vs H2) → t σ H1 Q
abbrev GM (X : Cx) (e : Expr) (σ : L2.St) (S : Hp) (P : Addr) (k k' : Nat) (r : Rl) : Prop := GoM (wE X e) σ S P k k' r
def GAM (X : Cx) (es : List Expr) (σ : L2.St) (S : Hp) (P : Addr) (k k' : Nat) (rs : List Rl) : Prop := ∃ t, PA X es t ∧ GoAM t σ S P k k' rs
section
variable {X : Cx} {σ : L2.St} {S H S0 H0 : Hp} {P : Addr} {k k' k1 k2 : Nat} {e a b : Expr} {es : List Expr} {r r' r1 r2 : Rl} {rs : List Rl} {pos pos' : Pos} {D : Ends}
theorem gm_of {t : TE} (h : PE X e t) (g : GoM t σ S P k k' r) : GM X e σ S P k k' r := fun S1 H1 a b p Q q pins s I => h.run pins s σ H1 Q I (g S1 H1 a b p Q q)
theorem gom {t : TE} (h : Go t σ S r) : GoM t σ S P k k r := fun S1 H1 c d p Q q => h S1 H1 c d Q fun v S2 H2 f hv => q v S2 H2 f.fm (p.go f) hv
theorem gm (h : GE X e σ S r) : GM X e σ S P k k r := gom h
theorem gm_imp (h : GM X e σ S P k k' r) (hi : ∀ S v, r.p S v → r'.p S v) : GM X e σ S P k k' r' := fun S1 H1 c d p Q q => h S1 H1 c d p Q fun v S2 H2 f pu hv => q v S2 H2 f pu (hi _ _ hv)
theorem gm_le (h : GM X e σ S P k k1 r) (hk : k2 ≤ k1 := by omega) : GM X e σ S P k k2 r := fun S1 H1 c d p Q q => h S1 H1 c d p Q fun v S2 H2 f pu hv => q v S2 H2 f (pu.le hk) hv
theorem gM_nil : GAM X [] σ S P k k [] := ⟨_, pa_nil, fun S1 H1 a b p Q q => q [] S1 H1 (Fm.refl b) p rfl⟩
theorem gM_cons (h : GM X e σ S P k k1 r) (ht : GAM X es σ S P k1 k2 rs) (hs : starEach (e :: es) X.env = (false, eval e X.env) :: starEach es X.env := by rfl) : GAM X (e :: es) σ S P k k2 (r :: rs) :=
  let ⟨_, p, g⟩ := ht
  ⟨_, pa_cons wE.pe p hs, fun S1 H1 c d pu Q q => h S1 H1 c d pu _ fun x S2 H2 f2 pu2 hx => g S2 H2 (c.trans f2.ss) f2.sh pu2 _ fun vs S3 H3 f3 pu3 hv => q (x :: vs) S3 H3 (f2.trans f3) pu3 ⟨x, vs, rfl, r.m f3.ss hx, hv⟩⟩
theorem gm_op {o : R2} (pe : PE X e (tOp o (wE X a) (wE X b))) (ha : GM X a σ S P k k1 r1) (hb : GM X b σ S P k1 k2 r2) (ho : OpD o r1 r2 r S) : GM X e σ S P k k2 r :=
  gm_of pe fun S1 H1 c d pu Q q => ha S1 H1 c d pu _ fun x S2 H2 f2 pu2 hx => hb S2 H2 (c.trans f2.ss) f2.sh pu2 _ fun y S3 H3 f3 pu3 hy =>
    ho S3 H3 x y ((c.trans f2.ss).trans f3.ss) f3.sh (r1.m f3.ss hx) hy Q fun v S4 H4 f4 hv => q v S4 H4 ((f2.trans f3).tp f4) (pu3.go f4) hv
/-! operations on what is only half known -/
theorem opd_ex1 {α : Type} [Rep α] {o : R2} {p : α → Prop} (h : ∀ x, p x → OpD o (dt x) r2 r S) : OpD o (rEx p) r2 r S := fun S1 H1 x y a b hx hy Q q => by
  obtain ⟨z, hz, hx⟩ := hx
  exact h z hz S1 H1 x y a b hx hy Q q
theorem opd_ex2 {α : Type} [Rep α] {o : R2} {p : α → Prop} (h : ∀ x, p x → OpD o r1 (dt x) r S) : OpD o r1 (rEx p) r S := fun S1 H1 x y a b hx hy Q q => by
  obtain ⟨z, hz, hy⟩ := hy
  exact h z hz S1 H1 x y a b hx hy Q q
theorem opd_to {α : Type} [Rep α] {o : R2} {p : α → Prop} {x : α} (h : OpD o r1 r2 (dt x) S) (hx : p x) : OpD o r1 r2 (rEx p) S := fun S1 H1 v w a b hv hw Q q =>
  h S1 H1 v w a b hv hw Q fun u S2 H2 f hu => q u S2 H2 f ⟨x, hx, hu⟩
theorem gm_addI {p1 p2 p : Int → Prop} (ha : GM X a σ S P k k1 (rEx p1)) (hb : GM X b σ S P k1 k2 (rEx p2)) (h : ∀ i j, p1 i → p2 j → p (i + j)) : GM X (.BinOp a .Add b pos) σ S P k k2 (rEx p) :=
  gm_op (pe_op op_add wE.pe wE.pe) ha hb (opd_ex1 fun i hi => opd_ex2 fun j hj => opd_to opd_I0 (h i j hi hj))
theorem gm_subI {p1 p2 p : Int → Prop} (ha : GM X a σ S P k k1 (rEx p1)) (hb : GM X b σ S P k1 k2 (rEx p2)) (h : ∀ i j, p1 i → p2 j → p (i - j)) : GM X (.BinOp a .Sub b pos) σ S P k k2 (rEx p) :=
  gm_op (pe_op op_sub wE.pe wE.pe) ha hb (opd_ex1 fun i hi => opd_ex2 fun j hj => opd_to opd_I0 (h i j hi hj))
theorem ge_rex {α : Type} [Rep α] {x : α} {p : α → Prop} (h : GE X e σ S (dt x)) (hp : p x) : GE X e σ S (rEx p) := fun S1 H1 c d Q q => h S1 H1 c d Q fun v S2 H2 f hv => q v S2 H2 f ⟨x, hp, hv⟩
theorem gm_catE {α : Type} [Rep α] {p1 p2 p : List α → Prop} (ha : GM X a σ S P k k1 (rEx p1)) (hb : GM X b σ S P k1 k2 (rEx p2)) (hz : ∀ x y, p1 x → p2 y → x.length + y.length ≤ most) (h : ∀ x y, p1 x → p2 y → p (x ++ y)) : GM X (.BinOp a .Add b pos) σ S P k k2 (rEx p) :=
  gm_op (pe_op op_cat wE.pe wE.pe) ha hb (opd_ex1 fun i hi => opd_ex2 fun j hj => opd_to (opd_cat (hz i j hi hj)) (h i j hi hj))
/-- xs[i], i drawn -/
theorem gm_ixE {α : Type} [Rep α] {xs : List α} {p : Int → Prop} (ha : GM X a σ S P k k1 (dt xs)) (hb : GM X b σ S P k1 k2 (rEx p)) (h : ∀ i, p i → 0 ≤ i ∧ i.toNat < xs.length) (hs : PlainIx b := by exact fun _ _ => rfl) : GM X (.Subscript a b pos) σ S P k k2 (rEx fun y => y ∈ xs) :=
  gm_op (pe_ix ix_list wE.pe wE.pe hs) ha hb (opd_ex2 fun i hi => by
    obtain ⟨h0, h1⟩ := h i hi
    have e : i = (i.toNat : Int) := (Int.toNat_of_nonneg h0).symm
    rw [e]
    exact opd_to (opd_ix (List.getElem?_eq_getElem h1)) (List.getElem_mem h1))
/-- xs[:i], i drawn -/
theorem gm_toE {α : Type} [Rep α] {q1 q : List α → Prop} {p : Int → Prop} {p2 : Pos} (ha : GM X a σ S P k k1 (rEx q1)) (hb : GM X b σ S P k1 k2 (rEx p)) (h : ∀ i, p i → 0 ≤ i) (hq : ∀ xs n, q1 xs → p n → q (xs.take n.toNat)) : GM X (.Subscript a (.Slice none (some b) none p2) pos) σ S P k k2 (rEx q) :=
  gm_of (pe_slice sl_list wE.pe po_none (po_some wE.pe)) fun S1 H1 c d pu Q qq => ha S1 H1 c d pu _ fun v S2 H2 f pu2 hv => hb S2 H2 (c.trans f.ss) f.sh pu2 _ fun w S3 H3 f3 pu3 hw => by
    obtain ⟨xs, hx1, p, vs, rfl, hp, hl, hr⟩ := hv
    obtain ⟨j, hj, hw⟩ := hw
    have h0 := h j hj
    have e : j = (j.toNat : Int) := (Int.toNat_of_nonneg h0).symm
    refine ⟨_, hw, p, vs, rfl, SqL.of (f3.sh _ _ (f3.ss _ _ hp)), fun l hn => ?_⟩
    have n := Fp.new (o := .lst (cutV vs none (some j))) f3.sh hn
    refine qq _ _ _ ((f.trans f3).tp n) (pu3.go n) ⟨xs.take j.toNat, hq xs j hx1 hj, l, _, rfl, upd_same, Nat.le_trans (by rw [List.length_take]; exact Nat.min_le_right _ _) hl, ?_⟩
    have h := (hr.take j.toNat).mono (f3.ss.trans n.ss)
    rw [← cut_to, ← e] at h
    exact h
theorem gm_sortedE {α : Type} [Rep α] [Srt α] {q1 q : List α → Prop} {n : Nat} {p : Pos} (hr : Room n X.A) (hm : X.mg "sorted" = none) (h : GM X e σ S P k k1 (rEx q1)) (hq : ∀ xs, q1 xs → q (srt xs)) (hz : Rep.dep α ≤ 64 := by decide) (hg : Gl X "sorted" := by rfl)
    (hs : starEach [e] X.env = (false, eval e X.env) :: starEach [] X.env := by rfl) (hpl : (backTo pos (starEach [] X.env)).any (·.1) = false := by rfl) : GM X (.Call (.Name "sorted" p) [e] [] pos) σ S P k k1 (rEx q) :=
  gm_of (pe_callB (cr_sortD (α := α) hr) hg hm boot_sorted' (pa_cons wE.pe pa_nil hs) (by decide) (by decide) hs hpl) fun S1 H1 c d pu Q qq => h S1 H1 c d pu _ fun v S2 H2 f pu2 hv => by
    obtain ⟨xs, hx, hv⟩ := hv
    obtain ⟨a, ws, rfl, ha, hl, hq2⟩ := hv
    refine ⟨S2, a, ws, xs, f.sh, rfl, f.sh _ _ ha, hq2, hz, fun zs l hn h2 => ?_⟩
    have n := Fp.new (o := .lst zs) f.sh hn
    exact qq _ _ _ (f.tp n) (pu2.go n) ⟨srt xs, hq xs hx, l, zs, rfl, upd_same, by rw [srt_len]; exact hl, h2.mono n.ss⟩
end
/-! ### defs that draw -/
def PrM (A : Type) (arg : A → List Rl) (res : A → Rl) (pre : A → Prop) (cost : Nat) : Sp := fun vs H Q _ => ∃ (a : A) (S : Hp) (P : Addr) (k : Nat) (us : List V), vs = .ref P :: us ∧ Same S H ∧ Pu S H P (k + cost) ∧ All2 S (arg a) us ∧ pre a ∧ ∀ v S' H', Fm (MP P) S H S' H' → Pu S' H' P k → (res a).p S' v → Q v H'
section
variable {X : Cx} {σ : L2.St} {S H S0 H0 : Hp} {P : Addr} {k k' k1 k2 cost : Nat} {e e0 a b c : Expr} {es : List Expr} {r r' r1 r2 : Rl} {rs : List Rl} {p pos pos' : Pos} {D : Ends} {x : Str} {ps : List Str} {lv lv' : Nat} {A : Type} {arg : A → List Rl} {res : A → Rl} {pre : A → Prop}
theorem gm_call (r : Rl) (F : Has X.prog X.w X.K X.mg X.base x ps lv (PrM A arg res pre cost)) (hr : Room lv' X.A) (ho : GE X e0 σ S (rRef P)) (ha : GAM X es σ S P k (k' + cost) rs) (hx : ∀ S vs, All2 S rs vs → ∃ a, All2 S (arg a) vs ∧ pre a ∧ ∀ S' v, (res a).p S' v → r.p S' v)
    (hk : lv ≤ lv' := by decide) (hg : Gl X x := by rfl) (hdb : (x == ("__debug__" : Str)) = false := by decide)
    (he : starEach (e0 :: es) X.env = (false, eval e0 X.env) :: starEach es X.env := by rfl) (hpl : (backTo pos (starEach es X.env)).any (·.1) = false := by rfl) : GM X (.Call (.Name x p) (e0 :: es) [] pos) σ S P k k' r := by
  obtain ⟨f, fd, hm, kp, hb, G⟩ := F.ex
  obtain ⟨t, pa, ga⟩ := ha
  refine gm_of (pe_call G (hr.mono hk) hg hm kp hb .nil pass0 (pa_cons wE.pe pa he) hdb he hpl) fun S1 H1 c d pu Q q => ho S1 H1 c d _ fun w S2 H2 f2 hw => ga S2 H2 (c.trans f2.ss) f2.sh (pu.go f2) _ fun vs S3 H3 f3 pu3 hv => ?_
  have hw : w = .ref P := hw
  subst hw
  obtain ⟨a, h1, h2, h3⟩ := hx S3 vs hv
  show PrM A arg res pre cost ((V.ref P :: vs) ++ []) H3 Q _
  rw [List.append_nil]
  exact ⟨a, S3, P, k', vs, rfl, f3.sh, pu3, h1, h2, fun v S' H' f4 pu4 h => q v S' H' ((f2.fm.trans f3).trans f4) pu4 (h3 _ _ h)⟩
theorem gom_now {t : TE} (g : GoM t σ S P k k' r) (h : Same S H) (pu : Pu S H P k) {Q : VK} (q : ∀ v S' H', Fm (MP P) S H S' H' → Pu S' H' P k' → r.p S' v → Q v H') : t σ H Q := g S H (Same.refl _) h pu Q q
theorem ws_setM (i : Nat) {x : Str} (g : GM X e σ S P k k' r) (hS : Same S H) (pu : Pu S H P k) (kk : ∀ v S' H', Fm (MP P) S H S' H' → Pu S' H' P k' → r.p S' v → D.nx (σ.set i (some v)) H') (hN : X.N.Nodup) (hi : X.N[i]? = some x := by rfl) (hx : Loc X.env.scope x := by first | exact Or.inl rfl | exact Or.inr rfl)
    (hs : swapsWith e (some (.Name x pos')) pos.line X.env = pure false := by rfl) (hf : X.fn x = true ∨ X.env.scope.names.lookup x = some .local := by first | exact .inl rfl | exact .inr rfl) : wS X (.Assign [.Name x pos'] e pos) D σ H :=
  of_ps (ps_set hN hi hx wE.pe hs hf) (gom_now g hS pu kk)
theorem ws_retM (f0 : Fm (MP P) S0 H0 S H) (g : GM X e σ S P k k' r) (pu : Pu S H P k) (kk : ∀ v S' H', Fm (MP P) S0 H0 S' H' → Pu S' H' P k' → r.p S' v → D.rt v H') : wS X (.Return (some e) pos) D σ H :=
  of_ps (ps_ret wE.pe) (gom_now g f0.sh pu fun v S' H' f pu h => kk v S' H' (f0.trans f) pu h)
theorem ws_parM (i j : Nat) {x y : Str} {px py pt : Pos} {kt k2 pt2} (hc : X.calm = true) (hN : X.N.Nodup) (g : GAM X [a, b] σ S P k k' [r1, r2]) (hS : Same S H) (pu : Pu S H P k) (kk : ∀ v w S' H', Fm (MP P) S H S' H' → Pu S' H' P k' → r1.p S' v → r2.p S' w → D.nx ((σ.set i (some v)).set j (some w)) H')
    (hi : X.N[i]? = some x := by rfl) (hj : X.N[j]? = some y := by rfl) (hij : i ≠ j := by decide) (hx : X.env.scope.names.lookup x = some .local := by rfl) (hy : X.env.scope.names.lookup y = some .local := by rfl)
    (hw : swappedStores [.Tuple [.Name x px, .Name y py] kt pt] (.Tuple [a, b] k2 pt2) X.env = pure (some [x, y]) := by rfl)
    (hs : swapsWithSole [.Tuple [.Name x px, .Name y py] kt pt] (.Tuple [a, b] k2 pt2) pos.line X.env = pure false := by rfl) : wS X (.Assign [.Tuple [.Name x px, .Name y py] kt pt] (.Tuple [a, b] k2 pt2) pos) D σ H :=
  let ⟨_, pa, ga⟩ := g
  of_ps (ps_par hc hN hi hj hij hx hy pa hw hs) (ga S H (Same.refl _) hS pu _ fun vs S' H' f pu hv => by
    obtain ⟨v, _, rfl, h1, w, _, rfl, h2, rfl⟩ := hv
    exact ⟨v, w, rfl, kk v w S' H' f pu h1 h2⟩)
/-- the same where the two are not both plain locals: by a tuple -/
theorem ws_parMG (i j : Nat) {x y : Str} {px py pt : Pos} {kt k2 pt2} (hc : X.calm = true) (hN : X.N.Nodup) (g : GAM X [a, b] σ S P k k' [r1, r2]) (hS : Same S H) (pu : Pu S H P k) (kk : ∀ v w S' H', Fm (MP P) S H S' H' → Pu S' H' P k' → r1.p S' v → r2.p S' w → D.nx ((σ.set i (some v)).set j (some w)) H')
    (hi : X.N[i]? = some x := by rfl) (hj : X.N[j]? = some y := by rfl)
    (hx : Loc X.env.scope x := by first | exact Or.inl rfl | exact Or.inr rfl) (hy : Loc X.env.scope y := by first | exact Or.inl rfl | exact Or.inr rfl)
    (fx : X.fn x = true ∨ X.env.scope.names.lookup x = some .local := by first | exact .inl rfl | exact .inr rfl) (fy : X.fn y = true ∨ X.env.scope.names.lookup y = some .local := by first | exact .inl rfl | exact .inr rfl)
    (hs : swapsWithSole [.Tuple [.Name x px, .Name y py] kt pt] (.Tuple [a, b] k2 pt2) pos.line X.env = pure false := by rfl) (hw : swappedStores [.Tuple [.Name x px, .Name y py] kt pt] (.Tuple [a, b] k2 pt2) X.env = pure none := by rfl) :
    wS X (.Assign [.Tuple [.Name x px, .Name y py] kt pt] (.Tuple [a, b] k2 pt2) pos) D σ H :=
  let ⟨_, pa, ga⟩ := g
  of_ps (ps_asg (pe_tup pa) (pg_tup hc (pgs_cons (pg_name hN hi hx fx) (pgs_cons (pg_name hN hj hy fy) pgs_nil))) hs hw) (ga S H (Same.refl _) hS pu _ fun vs S' H' f pu hv => by
    obtain ⟨v, _, rfl, h1, w, _, rfl, h2, rfl⟩ := hv
    refine ⟨(by show 2 ≤ sizeLine; decide), fun p hp => ?_⟩
    have n := Fp.newH (o := .tup [v, w]) f.sh hp
    exact ⟨p, _, rfl, SqT.of upd_same, rfl, v, _, rfl, w, _, rfl, rfl, kk v w S' _ (f.tp n) (pu.go n) h1 h2⟩)
/-- x, y = a, [] -/
theorem ws_parMO (i j : Nat) {x y : Str} {px py pt lp : Pos} {kt k2 pt2} (hc : X.calm = true) (hN : X.N.Nodup) (g : GM X a σ S P k k' r1) (hS : Same S H) (pu : Pu S H P k)
    (kk : ∀ v l S' H', Fm (MP P) S H S' H' → Pu S' H' P k' → r1.p S' v → H' l = none → D.nx ((σ.set i (some v)).set j (some (.ref l))) (upd H' l (.lst [])))
    (hi : X.N[i]? = some x := by rfl) (hj : X.N[j]? = some y := by rfl) (hij : i ≠ j := by decide) (hx : X.env.scope.names.lookup x = some .local := by rfl) (hy : X.env.scope.names.lookup y = some .local := by rfl)
    (hw : swappedStores [.Tuple [.Name x px, .Name y py] kt pt] (.Tuple [a, .List [] lp] k2 pt2) X.env = pure (some [x, y]) := by rfl)
    (hs : swapsWithSole [.Tuple [.Name x px, .Name y py] kt pt] (.Tuple [a, .List [] lp] k2 pt2) pos.line X.env = pure false := by rfl)
    (s1 : starEach [a, .List [] lp] X.env = (false, eval a X.env) :: starEach [.List [] lp] X.env := by rfl) (s3 : starEach [.List [] lp] X.env = (false, eval (.List [] lp) X.env) :: starEach [] X.env := by rfl) : wS X (.Assign [.Tuple [.Name x px, .Name y py] kt pt] (.Tuple [a, .List [] lp] k2 pt2) pos) D σ H :=
  of_ps (ps_par hc hN hi hj hij hx hy (pa_cons wE.pe (pa_cons (pe_lst pa_nil) pa_nil s3) s1) hw hs) (g S H (Same.refl _) hS pu _ fun v S' H' f pu hv => ⟨Nat.zero_le _, fun l hl => ⟨v, .ref l, rfl, kk v l S' H' f pu hv hl⟩⟩)
theorem fm_del {M : Addr → Prop} {S H S' H' : Hp} {l : Addr} {o : HO} (f : Fm M (upd S l o) H S' H') (n : S l = none) : Fm M S H (del l S') H' := by
  refine ⟨fun a u e => ?_, fun a u e => ?_, f.hh, fun a e z => ?_, f.al⟩
  · have hne := ne_of_none e n
    unfold del; rw [if_neg hne]
    exact f.ss a u (by rw [upd_ne hne]; exact e)
  · unfold del at e
    by_cases c : a = l
    · rw [if_pos c] at e; cases e
    · rw [if_neg c] at e; exact f.sh a u e
  · unfold del
    by_cases c : a = l
    · rw [if_pos c]
    · rw [if_neg c]; exact f.fr a (by rw [upd_ne c]; exact e) z
theorem Pu.mut {S H : Hp} {l : Addr} {o : HO} (pu : Pu S H P k) (h : l ≠ P) : Pu S (upd H l o) P k := by
  obtain ⟨a, b, c, d, h0, r⟩ := pu.ex
  exact ⟨pu.no, a, b, c, d, by rw [upd_ne (fun z => h z.symm)]; exact h0, r⟩
/-- found.insert(draw, item), found an own list that the draw may look at -/
theorem ws_ownins {γ : Type} [Rep γ] {l : Addr} {ys : List γ} {y : γ} {o : Expr} {ap cp : Pos} (w : Own S H l ys) (hlP : l ≠ P) (pu : Pu S H P k) (hS : Same S H) (hz : ys.length < most)
    (ho : ∀ S1, Same S S1 → GE X o σ S1 (rRef l)) (g : ∀ S1, Same S S1 → Rep.rep S1 (.ref l) ys → GM X a σ S1 P k k' (rEx fun i : Int => 0 ≤ i ∧ i ≤ ys.length)) {vy : V} (gy : ∀ S1, Same S S1 → GE X b σ S1 (rVal vy)) (hy : Rep.rep S vy y)
    (kk : ∀ (i : Nat) S' H' H'', Fm (MP P) S H S' H' → S' l = none → Pu S' H'' P k' → (∃ o, H'' = upd H' l o) → i ≤ ys.length → Own S' H'' l (ys.take i ++ [y] ++ ys.drop i) → D.nx σ H'')
    (hbase : attributeBase o "insert" X.env (eval o X.env) = eval o X.env := by rfl)
    (hfew : ((backTo cp (starEach [a, b] X.env)).all (fun x => !x.1) && (backToKw cp (keywordEach [] X.env)).all (fun x => x.1.isSome)
      && decide ([a, b].length + ([] : List Keyword).length + (if ([] : List Keyword).isEmpty then 0 else 1) < 30)) = true := by rfl)
    (hline : (ap.endLine == cp.line) = true := by rfl) (hs : starEach [a, b] X.env = (false, eval a X.env) :: starEach [b] X.env := by rfl) (hs2 : starEach [b] X.env = (false, eval b X.env) :: starEach [] X.env := by rfl) (hplain : (backTo cp (starEach [b] X.env)).any (·.1) = false := by rfl)
    (hsw : swapsWith (.Call (.Attribute o "insert" ap) [a, b] [] cp) none pos.line X.env = pure false := by rfl) : wS X (.Expr (.Call (.Attribute o "insert" ap) [a, b] [] cp) pos) D σ H := by
  obtain ⟨acc, e1, e2⟩ := w.ex
  have s1 : Same S (upd S l (.lst acc)) := fun a u e => by rw [upd_ne (ne_of_none e w.no)]; exact e
  have s2 : Same (upd S l (.lst acc)) H := fun a u e => by
    by_cases c : a = l
    · subst c; rw [upd_same] at e; rw [e1]; exact e
    · rw [upd_ne c] at e; exact hS a u e
  have rl : Rep.rep (upd S l (.lst acc)) (.ref l) ys := ⟨l, acc, rfl, upd_same, Nat.le_of_lt hz, e2.mono s1⟩
  have pu1 : Pu (upd S l (.lst acc)) H P k := ⟨by rw [upd_ne (fun z => hlP z.symm)]; exact pu.no, pu.ex⟩
  refine of_ps (ps_expr (pe_bm PySem.F.plainAttrs_list PySem.F.slot_list_insert PySem.F.type_list_insert mt_insert wE.pe (pa_cons wE.pe (pa_cons wE.pe pa_nil hs2) hs) hbase hfew hline hs hplain) hsw) ?_
  refine ho _ s1 _ H (Same.refl _) s2 _ fun v S1 H1 f1 hv => ?_
  have hv : v = .ref l := hv
  subst hv
  have e3 : H1 l = some (.lst acc) := f1.hh _ _ e1
  refine ⟨.inl ⟨rfl, acc, SqL.of e3⟩, g S1 (s1.trans f1.ss) (Rep.mono f1.ss rl) S1 H1 (Same.refl _) f1.sh (pu1.go f1) _ fun w1 S2 H2 f2 pu2 hw1 => gy S2 ((s1.trans f1.ss).trans f2.ss) S2 H2 (Same.refl _) f2.sh _ fun w2 S3 H3 f3 hw2 => ?_⟩
  obtain ⟨i, ⟨h0, hi⟩, hw1⟩ := hw1
  have hw1 : w1 = .int i := hw1
  have e4 : H3 l = some (.lst acc) := f3.hh _ _ (f2.hh _ _ hlP e3)
  have hz2 : ys.length < 4000 := hz
  have hil : i.toNat ≤ ys.length := by omega
  refine ⟨l, acc, i, w2, rfl, by rw [hw1], e4, by rw [e2.len]; exact small_lt (Nat.le_of_lt hz), h0, by omega, ?_⟩
  have F := fm_del (((f1.fm (M := MP P)).trans f2).tp f3) w.no
  have sd : Same S (del l S3) := F.ss
  have nl : del l S3 l = none := by unfold del; rw [if_pos rfl]
  have pu3 : Pu (del l S3) H3 P k' := ⟨by unfold del; rw [if_neg (fun z => hlP z.symm)]; exact (pu2.go f3).no, (pu2.go f3).ex⟩
  refine kk i.toNat (del l S3) H3 _ F nl (pu3.mut hlP) ⟨_, rfl⟩ hil ⟨nl, _, upd_same, ?_⟩
  have hw2 : w2 = vy := hw2
  subst hw2
  have ry : Rep.rep (del l S3) w2 y := Rep.mono sd hy
  have e5 := e2.mono sd
  exact ((e5.take i.toNat).append (.cons ry .nil)).append (e5.drop i.toNat)
end
/-! ### loops and comprehensions that draw -/
section
variable {X : Cx} {σ : L2.St} {S H S0 H0 : Hp} {M : Addr → Prop} {P : Addr} {k k' : Nat} {iter tg elt : Expr} {body : List Stmt} {pos tpos : Pos} {D : Ends} {α : Type} [Rep α]
/-- a source that draws; p: what it may be -/
def GIM (X : Cx) (tg iter : Expr) (σ : L2.St) (S : Hp) (P : Addr) (k k' : Nat) (p : List α → Prop) : Prop :=
  ∃ wi, PI X tg iter wi ∧ ∀ S1 H1, Same S S1 → Same S1 H1 → Pu S1 H1 P k → ∀ R : It → Hp → Prop, (∀ J S2 H2 xs, Fm (MP P) S1 H1 S2 H2 → Pu S2 H2 P k' → p xs → Src J S2 xs → R J H2) → wi σ H1 R
theorem gim {xs : List α} (h : GI X tg iter σ S xs) : GIM X tg iter σ S P k k (fun ys => ys = xs) :=
  let ⟨wi, pi, g⟩ := h
  ⟨wi, pi, fun S1 H1 c d pu R q => g S1 H1 c d R fun J S2 H2 f s => q J S2 H2 xs f.fm (pu.go f) rfl s⟩
theorem gim_range {e : Expr} {p : Pos} {q : Int → Prop} (hm : X.mg "range" = none) (h : GM X e σ S P k k' (rEx q)) (hq : ∀ i, q i → 0 ≤ i ∧ i ≤ 4000) (hg : Gl X "range" := by rfl) (hs : starEach [e] X.env = [(false, eval e X.env)] := by rfl) :
    GIM X tg (.Call (.Name "range" p) [e] [] pos) σ S P k k' (fun ys => ∃ i, q i ∧ ys = upto i.toNat) := by
  refine ⟨_, pi_range1 hg hm (pa_cons wE.pe pa_nil hs) hs, fun S1 H1 c d pu R qq => h S1 H1 c d pu _ fun v S2 H2 f pu2 hv => ?_⟩
  obtain ⟨n, hn, hv⟩ := hv
  obtain ⟨h0, hz⟩ := hq n hn
  have hv : v = .int n := hv
  refine ⟨n, by rw [hv], by omega, by omega, qq _ S2 H2 (upto n.toNat) f pu2 ⟨n, hn, rfl⟩ ⟨fun i S' H' s1 s2 hi => ?_, fun S' H' s1 s2 => ?_, fun i S' H' v H'' s1 s2 hi y => ?_⟩⟩
  · rw [upto_len] at hi
    show i < n.toNat
    omega
  · rw [upto_len]
    show n.toNat ≤ n.toNat
    omega
  · obtain ⟨rfl, rfl⟩ := y
    rw [upto_len] at hi
    exact ⟨S', (i : Int), Fp.refl s2, upto_at hi, show V.int ((0 : Int) + (i : Int)) = V.int (i : Int) by rw [Int.zero_add]⟩
/-- a for over such -/
theorem ws_forM {p : List α → Prop} {g : TG} (hp : PassesOwn (model X.prog X.w) X.A X.env X.xe) (hc : X.calm = true) (hi : GIM X tg iter σ S P k k' p) (hg : PG X tg g) (hS : Same S H) (pu : Pu S H P k)
    (W : List α → Hp → Hp → Nat → L2.St → Hp → Hp → Prop)
    (h0 : ∀ xs S2 H2, p xs → Fm (MP P) S H S2 H2 → Pu S2 H2 P k' → W xs S2 H2 0 σ S2 H2)
    (hs : ∀ xs S2 H2 i σ' S' H', W xs S2 H2 i σ' S' H' → Same S2 S' ∧ Same S' H')
    (ht : ∀ xs S2 H2, p xs → Fm (MP P) S H S2 H2 → ∀ i x v σ' S' H' S'' H'', xs[i]? = some x → W xs S2 H2 i σ' S' H' → Fp S' H' S'' H'' → Rep.rep S'' v x →
      g v σ' H'' fun σ3 H3 => wSs X body { D with nx := fun σ4 H4 => ∃ S4, W xs S2 H2 (i + 1) σ4 S4 H4, ct := fun σ4 H4 => ∃ S4, W xs S2 H2 (i + 1) σ4 S4 H4, bk := D.nx } σ3 H3)
    (hd : ∀ xs S2 H2, p xs → Fm (MP P) S H S2 H2 → ∀ σ' S' H', W xs S2 H2 xs.length σ' S' H' → D.nx σ' H') (hfs : ∀ x, foldedSetIterable iter X.env x = pure x := by intro _; rfl) : wS X (.For tg iter body [] pos) D σ H := by
  obtain ⟨wi, pi, gi⟩ := hi
  refine of_ps (ps_for hp hc pi hg wSs.ps hfs) (gi S H (Same.refl _) hS pu _ fun J S2 H2 xs f2 pu2 hpx src => ?_)
  refine ⟨fun i m σ H => m = xs.length - i ∧ i ≤ xs.length ∧ ∃ S', W xs S2 H2 i σ S' H, ⟨xs.length, rfl, Nat.zero_le _, S2, h0 xs S2 H2 hpx f2 pu2⟩, ?_⟩
  rintro i m σ' H' ⟨rfl, hi, S', w⟩
  obtain ⟨s1, s2⟩ := hs xs S2 H2 i σ' S' H' w
  by_cases hlt : i < xs.length
  · refine .inr ⟨src.go i S' H' s1 s2 hlt, fun σ4 H4 => ∃ S4, W xs S2 H2 (i + 1) σ4 S4 H4, fun σ4 H4 q' => ⟨xs.length - (i + 1), by omega, rfl, hlt, q'⟩, fun v H'' y => ?_⟩
    obtain ⟨S'', x, fy, hx, hv⟩ := src.yld i S' H' v H'' s1 s2 hlt y
    exact ht xs S2 H2 hpx f2 i x v σ' S' H' S'' H'' hx w fy hv
  · have e : i = xs.length := by omega
    subst e
    exact .inl ⟨src.stop S' H' s1 s2, hd xs S2 H2 hpx f2 σ' S' H' w⟩
/-- what a turn leaves -/
def NxP {B : Type} (S2 S0 H0 : Hp) (M : Addr → Prop) (P : Addr) (k : Nat) (τ : B → Option V → L2.St) (R : B → Hp → Hp → Prop) : L2.St → Hp → Prop := fun σ4 H4 => ∃ S4 b y, Same S2 S4 ∧ Fm M S0 H0 S4 H4 ∧ Pu S4 H4 P k ∧ R b S4 H4 ∧ σ4 = τ b y
/-- for x in .., its turns drawing and changing what B tells; kf i: what the purse still holds ahead of turn i -/
theorem ws_forP {B : Type} {p : List α → Prop} {x : Str} (j : Nat) (kf : Nat → Nat) (τ : B → Option V → L2.St) (R : List α → Nat → B → Hp → Hp → Prop) {b0 : B} {y0 : Option V} (hp : PassesOwn (model X.prog X.w) X.A X.env X.xe) (hc : X.calm = true) (hN : X.N.Nodup)
    (hi : GIM X (.Name x tpos) iter σ S P k k' p) (f0 : Fm M S0 H0 S H) (hM : ∀ a, a = P → M a) (pu : Pu S H P k) (hk : kf 0 ≤ k')
    (hR : ∀ xs i b S H S' H', Fp S H S' H' → R xs i b S H → R xs i b S' H') (hR0 : ∀ xs S2 H2, p xs → Fm (MP P) S H S2 H2 → R xs 0 b0 S2 H2)
    (ht : ∀ xs i x v b S2 S' H', p xs → xs[i]? = some x → Same S S2 → Same S2 S' → Fm M S0 H0 S' H' → Pu S' H' P (kf i) → R xs i b S' H' → Rep.rep S' v x →
      wSs X body { D with nx := NxP S' S0 H0 M P (kf (i + 1)) τ (R xs (i + 1)), ct := NxP S' S0 H0 M P (kf (i + 1)) τ (R xs (i + 1)), bk := D.nx } (τ b (some v)) H')
    (hd : ∀ xs b y S2 S' H', p xs → Same S S2 → Same S2 S' → Fm M S0 H0 S' H' → Pu S' H' P (kf xs.length) → R xs xs.length b S' H' → D.nx (τ b y) H')
    (eσ : σ = τ b0 y0 := by rfl) (eτ : ∀ b y v, (τ b y).set j (some v) = τ b (some v) := by intro _ _ _; rfl) (hx : X.N[j]? = some x := by rfl) (hl : Loc X.env.scope x := by first | exact Or.inl rfl | exact Or.inr rfl)
    (hf : X.fn x = true ∨ X.env.scope.names.lookup x = some .local := by first | exact .inl rfl | exact .inr rfl) (hfs : ∀ x, foldedSetIterable iter X.env x = pure x := by intro _; rfl) : wS X (.For (.Name x tpos) iter body [] pos) D σ H :=
  ws_forM hp hc hi (pg_name hN hx hl hf) f0.sh pu (fun xs S2 H2 i σ' S' H' => Same S2 S' ∧ Fm M S0 H0 S' H' ∧ Pu S' H' P (kf i) ∧ ∃ b y, R xs i b S' H' ∧ σ' = τ b y)
    (fun xs S2 H2 hpx f2 pu2 => ⟨Same.refl _, f0.trans ⟨f2.ss, f2.sh, fun a o m e => f2.hh a o (fun z => m (hM a z)) e, f2.fr, f2.al⟩, pu2.le hk, b0, y0, hR0 xs S2 H2 hpx f2, eσ⟩)
    (fun xs S2 H2 i σ' S' H' w => ⟨w.1, w.2.1.sh⟩)
    (fun xs S2 H2 hpx f2 i x v σ' S' H' S'' H'' hx w fy hv => by
      obtain ⟨s1, f, pw, b, y, hb, rfl⟩ := w
      show wSs X body _ ((τ b y).set j (some v)) H''
      rw [eτ]
      have k := ht xs i x v b S2 S'' H'' hpx hx f2.ss (s1.trans fy.ss) (f.tp fy) (pw.go fy) (hR _ _ _ _ _ _ _ fy hb) hv
      refine wSs_mk fun pins s Iv => thn (wSs_run k pins s Iv) fun fl s' q => ?_
      cases fl with
      | next => obtain ⟨σ4, H4, I4, S4, b, y, s4, f4, p4, r4, e4⟩ := q; exact ⟨σ4, H4, I4, S4, (s1.trans fy.ss).trans s4, f4, p4, b, y, r4, e4⟩
      | cont => obtain ⟨σ4, H4, I4, S4, b, y, s4, f4, p4, r4, e4⟩ := q; exact ⟨σ4, H4, I4, S4, (s1.trans fy.ss).trans s4, f4, p4, b, y, r4, e4⟩
      | brk => exact q
      | ret u => exact q)
    (fun xs S2 H2 hpx f2 σ' S' H' w => by
      obtain ⟨s1, f, pw, b, y, hb, rfl⟩ := w
      exact hd xs b y S2 S' H' hpx f2.ss s1 f pw hb) hfs
/-- [e for x in ..], e drawing one -/
theorem go_lcM {β : Type} [Rep β] {p : List α → Prop} {g : TG} {scope : Scope} {own : List (Str × Nat)} {wi : TI} {comps : α → List Rl} {τ : List V → L2.St} {r : β → Prop} {n : Nat}
    (hi : ∀ S1 H1, Same S S1 → Same S1 H1 → Pu S1 H1 P k → ∀ R : It → Hp → Prop, (∀ J S2 H2 xs, Fm (MP P) S1 H1 S2 H2 → Pu S2 H2 P (k' + n) → p xs → Src J S2 xs → R J H2) → wi σ H1 R) (hn : ∀ xs, p xs → xs.length ≤ n) (hz : n ≤ most)
    (ht : Tgt g (wipe σ (own.map (·.2))) comps τ) (hw : ∀ ws, wipe (τ ws) (own.map (·.2)) = wipe σ (own.map (·.2)))
    (hf : ∀ x ws S1 j, Same S S1 → All2 S1 (comps x) ws → ∀ s H C cl fp, GM (BX X scope s H C cl fp) elt (τ ws) S1 P (j + 1) j (rEx r)) :
    GoM (tLc wi g tYes (bE X scope elt) (own.map (·.2))) σ S P k k' (rEx fun ys : List β => (∃ xs, p xs ∧ ys.length = xs.length) ∧ ∀ y ∈ ys, r y) := fun S1 H1 c d pu Q q => by
  refine hi S1 H1 c d pu _ fun J S2 H2 xs f2 pu2 hpx src D hD => ?_
  have hDP : D ≠ P := fun z => pu2.live (z ▸ hD)
  have hxn := hn xs hpx
  refine ⟨fun i m H => m = xs.length - i ∧ i ≤ xs.length ∧ ∃ S' acc ys, Fm (MP P) S2 H2 S' H ∧ Pu S' H P (k' + (n - i)) ∧ S' D = none ∧ H D = some (.lst acc) ∧ Reps S' acc ys ∧ ys.length = i ∧ ∀ y ∈ ys, r y, ⟨xs.length, rfl, Nat.zero_le _, S2, [], [], (Fp.newH f2.sh hD).fm, pu2.go (Fp.newH f2.sh hD), same_none f2.sh hD, upd_same, .nil, rfl, by simp⟩, ?_⟩
  rintro i m H ⟨rfl, hi, S', acc, ys, fi, pui, nD, eD, hr, hyl, hyr⟩
  by_cases hlt : i < xs.length
  · refine .inr ⟨src.go i S' H fi.ss fi.sh hlt, fun H => i + 1 ≤ xs.length ∧ ∃ S' acc ys, Fm (MP P) S2 H2 S' H ∧ Pu S' H P (k' + (n - (i + 1))) ∧ S' D = none ∧ H D = some (.lst acc) ∧ Reps S' acc ys ∧ ys.length = i + 1 ∧ ∀ y ∈ ys, r y, fun H' q' => ⟨xs.length - (i + 1), by omega, rfl, q'⟩, fun v H' y => ?_⟩
    obtain ⟨S'', x, fy, hx, hv⟩ := src.yld i S' H v H' fi.ss fi.sh hlt y
    have nD2 : S'' D = none := fy.fr D nD (by rw [eD]; exact fun z => nomatch z)
    have e3 : H' D = some (.lst acc) := fy.hh D _ eD
    refine ht x v S'' H' hv fy.sh _ fun ws hws => ⟨hw ws, ?_⟩
    dsimp only [tYes]
    rw [if_pos rfl]
    have puy := pui.go fy
    have ek : k' + (n - i) = (k' + (n - (i + 1))) + 1 := by omega
    rw [ek] at puy
    refine fun s H0 C cl fp => hf x ws S'' (k' + (n - (i + 1))) (((c.trans f2.ss).trans fi.ss).trans fy.ss) hws s H0 C cl fp S'' H' (Same.refl _) fy.sh puy _ fun y S4 H4 f4 pu4 hy => ?_
    obtain ⟨z, hz1, hz2⟩ := hy
    have nD4 : S4 D = none := f4.fr D nD2 (by rw [e3]; exact fun z => nomatch z)
    have hz' : n ≤ 4000 := hz
    have hal : acc.length = i := by rw [hr.len, hyl]
    refine ⟨acc, f4.hh D _ hDP e3, small_lt (show acc.length ≤ 4000 by omega), by omega, S4, acc ++ [y], ys ++ [z], ((fi.tp fy).trans f4).mutD (.inl hD) nD4, pu4.mut hDP, nD4, upd_same, (hr.mono (fy.ss.trans f4.ss)).snoc hz2, by rw [List.length_append, List.length_singleton, hyl], fun u hu => ?_⟩
    rcases List.mem_append.mp hu with h1 | h1
    · exact hyr u h1
    · rw [List.mem_singleton.mp h1]; exact hz1
  · have e : i = xs.length := by omega
    subst e
    refine .inl ⟨src.stop S' H fi.ss fi.sh, ?_⟩
    have fk : Fm (MP P) S1 H1 (upd S' D (.lst acc)) H := f2.trans (fi.keepD hD nD eD)
    have sD : Same S' (upd S' D (.lst acc)) := fun a u e => by rw [upd_ne (ne_of_none e nD)]; exact e
    have pk : Pu (upd S' D (.lst acc)) H P k' := ⟨by rw [upd_ne (fun z => hDP z.symm)]; exact pui.no, (pui.le (by omega)).ex⟩
    exact q _ _ _ fk pk ⟨ys, ⟨⟨xs, hpx, hyl⟩, hyr⟩, D, acc, rfl, upd_same, by rw [hyl]; exact Nat.le_trans hxn hz, hr.mono sD⟩
end
section
variable {X : Cx} {σ : L2.St} {S H : Hp} {P : Addr} {k k' n : Nat} {iter elt : Expr} {scope : Scope} {pos tpos : Pos} {α β : Type} [Rep α] [Rep β] {x : Str}
theorem gm_lcM {p : List α → Prop} {r : β → Prop} (N : List Str) (sc : Scope) (j : Nat) (hc : X.calm = true) (hN : X.N.Nodup) (hi : GIM X (.Name x tpos) iter σ S P k (k' + n) p) (hn : ∀ xs, p xs → xs.length ≤ n) (hz : n ≤ most)
    (hf : ∀ (y : α) v S1 m, Same S S1 → Rep.rep S1 v y → ∀ s H C cl fp, GM (BX X scope s H C cl fp) elt ((wipe σ [j]).set j (some v)) S1 P (m + 1) m (rEx r))
    (hg : ∀ s H C cl fp, PG (BX X scope s H C cl fp) (.Name x tpos) (gName j) := by first | exact fun _ _ _ _ _ => pg_name (by assumption) rfl (Or.inl rfl) | exact fun _ _ _ _ _ => pg_name (by assumption) rfl (Or.inr rfl)) (hw : ∀ ws : List V, wipe ((wipe σ [j]).set j ws.head?) [j] = wipe σ [j] := by intro _; rfl)
    (hs : ∀ x, foldedSetIterable iter X.env x = pure x := by intro _; rfl) (eN : X.N = N := by rfl) (eS : X.env.scope = sc := by rfl) (ok : blkC N sc scope [(x, j)] = true := by decide +kernel) :
    GM X (.ListComp elt [⟨.Name x tpos, iter, [], 0⟩] scope pos) σ S P k k' (rEx fun ys : List β => (∃ xs, p xs ∧ ys.length = xs.length) ∧ ∀ y ∈ ys, r y) :=
  let ⟨_, pi, gi⟩ := hi
  gm_of (pe_lc hc hN pi (blkOk_by (own := [(x, j)]) (by rw [eN, eS]; exact ok)) hg (fun _ _ _ _ _ => pts_nil) pe_b hs) (go_lcM (own := [(x, j)]) gi hn hz (tgt_name j) hw fun y ws S1 m a c s H C cl fp => by obtain ⟨v, _, rfl, hv, rfl⟩ := c; exact hf y v S1 m a hv s H C cl fp)
end
/-- THE RULE for a def that draws -/
theorem has_ofM {P : Program} {w : World} {K : PySem.W.Frag} {mg : Str → Option Value} {base : Heap} {x qual : Str} {st : Stmt} {f : Addr} {fd : FuncData} {N ps : List Str} {k cost : Nat} {A : Type} {arg : A → List Rl} {res : A → Rl} {pre : A → Prop}
    (F : FunD K x qual (defArgs st) (defBody st) (defScope st) [] [] f fd) (g : mg x = some (.ref f)) (hb : Binds K fd ps []) (sc : FnScope N ps (defScope st)) (hl : ∀ a, (arg a).length + 1 = ps.length)
    (body : ∀ (cdv : Value) (A0 : Around) (outer : List Env) (s : Shared) (H : Hp) (E : XK), Room k (A0.deeper (envOfC qual (defScope st) s.heap.objs.size f cdv)) →
      ∀ a S PP m us (D : Ends), Same S H → Pu S H PP (m + cost) → All2 S (arg a) us → pre a → (∀ v S' H', Fm (MP PP) S H S' H' → Pu S' H' PP m → (res a).p S' v → D.rt v H') →
      wSs (cxOf CX0 P w K mg base N qual (defScope st) f cdv A0 outer s H E).nox (defBody st) D (start N (.ref PP :: us)) H) :
    Has P w K mg base x ps (k + 1) (PrM A arg res pre cost) :=
  ⟨f, fd, g, F.kp, hb, F.ok sc (fun vs H Q E ⟨a, S, PP, m, us, e, _, _, h, _⟩ => by rw [e, List.length_cons, all2_len h, hl]) fun cdv A0 outer s H vs Q E hr ⟨a, S, PP, m, us, e, hS, pu, h, hp, q⟩ => by
    subst e
    exact ⟨_, (wSs.ps (X := (cxOf CX0 P w K mg base N qual (defScope st) f cdv A0 outer s H E).nox)).nox, body cdv A0 outer s H E hr a S PP m us { nx := fun _ H' => Q .non H', rt := Q } hS pu h hp q⟩⟩
end Cp
namespace Cp
open PySem PySem.Spec PyProof.Rows L2
section
variable {P : Program} {w : World} {K : PySem.W.Frag} {mg : Str → Option Value} {base : Heap}
theorem fm_bd (i : Int) {j : Int} (h : 0 < j) (h2 : j ≤ 2 ^ 64) : -(2 ^ 64) < i.fmod j ∧ i.fmod j < 2 ^ 64 := by
  have h1 := Int.fmod_nonneg_of_pos i h
  have h3 := Int.fmod_lt_of_pos i h
  constructor <;> omega
def l_mixed (_law_seed : Int) (_law_turn : Int) (_law_at : Int) : Int := (Int.fmod ((Int.fmod (((Int.fmod ((((_law_seed * (69069 : Int)) + (((104729 : Int) * _law_turn) * _law_turn)) + ((7919 : Int) * _law_at)) + _law_turn) (2147483647 : Int)) * (Int.fmod ((((_law_seed * (69069 : Int)) + (((104729 : Int) * _law_turn) * _law_turn)) + ((7919 : Int) * _law_at)) + _law_turn) (2147483647 : Int))) + (40503 : Int)) (2147483629 : Int)) * (48271 : Int)) (2147483587 : Int))
abbrev n_s_law_mixed : List Str := ["_law_seed", "_law_turn", "_law_at", "_law_mixed_here"]
theorem sc_law_mixed : FnScope n_s_law_mixed ["_law_seed", "_law_turn", "_law_at"] (defScope s_law_mixed) := ⟨rfl, rfl, rfl, by decide +kernel, rfl, by decide +kernel, by decide +kernel⟩
abbrev P_law_mixed : Sp := Pr (Int × Int × Int) (fun a => [dt a.1, dt a.2.1, dt a.2.2]) (fun a => dt (l_mixed a.1 a.2.1 a.2.2)) (fun a => 0 ≤ a.2.1 ∧ a.2.1 ≤ 100000)
theorem w_law_mixed (T : Top K mg) : Has P w K mg base "_law_mixed" ["_law_seed", "_law_turn", "_law_at"] 1 P_law_mixed := by
  obtain ⟨fd, F, g⟩ := T.fn 34 rfl rfl rfl
  refine has_of F g (F.bindsN fun _ _ _ _ _ _ us hl => match us, hl with | [_, _, _], _ => rfl) sc_law_mixed (fun _ => rfl) ?_
  have nd := sc_law_mixed.nd
  intro cdv A0 outer s H E hr ⟨_law_seed, _law_turn, _law_at⟩ S vs D hS h hp q hn
  obtain ⟨v__law_seed, _, rfl, h__law_seed, v__law_turn, _, rfl, h__law_turn, v__law_at, _, rfl, h__law_at, rfl⟩ := h
  exact wss_cons (ws_set 3 (ge_add (ge_mul (ge_name 0 rfl h__law_seed) ge_int (.inr ⟨by decide, by decide⟩)) (ge_mul (ge_mul ge_int (ge_name 1 rfl h__law_turn) (.inl ⟨by decide, by decide⟩)) (ge_name 1 rfl h__law_turn) (.inr ⟨by have := hp.1; omega, by have := hp.2; omega⟩))) (Fp.refl hS).sh (fun v54 S54 H54 f54 h54 => wss_cons (ws_set 3 (ge_mod (ge_add (ge_add (ge_name 3 rfl h54) (ge_mul ge_int (ge_name 2 rfl (Rep.mono f54.ss h__law_at)) (.inl ⟨by decide, by decide⟩))) (ge_name 1 rfl (Rep.mono f54.ss h__law_turn))) ge_int (by decide)) ((Fp.refl hS).trans f54).sh (fun v55 S55 H55 f55 h55 => wss_cons (ws_set 3 (ge_mod (ge_add (ge_mul (ge_name 3 rfl h55) (ge_name 3 rfl h55) (.inl (fm_bd _ (by decide) (by decide)))) ge_int) ge_int (by decide)) (((Fp.refl hS).trans f54).trans f55).sh (fun v56 S56 H56 f56 h56 => wss_one (ws_ret ((((Fp.refl hS).trans f54).trans f55).trans f56) (ge_mod (ge_mul (ge_name 3 rfl h56) ge_int (.inr ⟨by decide, by decide⟩)) ge_int (by decide)) q)) nd)) nd)) nd)
abbrev drawn (n : Int) : Rl := rEx fun i : Int => 0 ≤ i ∧ i < n
section
variable {X : Cx} {σ : L2.St} {S H : Hp} {P : Addr} {k : Nat} {e o : Expr} {pos pos' sp : Pos} {D : Ends} {i : Int} {xs : List V}
/-- the purse as data -/
theorem pu_data {a b c d : Int} (n : S P = none) (h : H P = some (.lst [.int a, .int b, .int c, .int d])) (hS : Same S H) :
    Same S (upd S P (.lst [.int a, .int b, .int c, .int d])) ∧ Same (upd S P (.lst [.int a, .int b, .int c, .int d])) H ∧ Rep.rep (upd S P (.lst [.int a, .int b, .int c, .int d])) (.ref P) ([a, b, c, d] : List Int) := by
  refine ⟨fun x u e => by rw [upd_ne (ne_of_none e n)]; exact e, fun x u e => ?_, P, _, rfl, upd_same, (by show 4 ≤ 4000; decide), .cons rfl (.cons rfl (.cons rfl (.cons rfl .nil)))⟩
  by_cases c : x = P
  · subst c; rw [upd_same] at e; rw [h]; exact e
  · rw [upd_ne c] at e; exact hS x u e
/-- purse[j] = e -/
theorem ws_pset {T : Hp} {a b c d : Int} {j : Nat} {jc} {jp : Pos} (hj : j < 4) (n : S P = none) (h : H P = some (.lst [.int a, .int b, .int c, .int d])) (s1 : Same S T) (s2 : Same T H) (g : GE X e σ T (dt i)) (ho : ∀ S1, GE X o σ S1 (rRef P))
    (k : ∀ S' H', Fp S H S' H' → S' P = none → H' P = some (.lst [.int a, .int b, .int c, .int d]) → D.nx σ (upd H' P (.lst ([.int a, .int b, .int c, .int d].set j (.int i)))))
    (ha : ∀ v, assign (.Subscript o (.Constant (.int (j : Int)) jc jp) sp) X.env v = (do
      let ov ← holding [v] (eval o X.env)
      let iv ← holding [v, ov] (eval (.Constant (.int (j : Int)) jc jp) X.env)
      standAt sp
      holding [v, ov, iv] (setItem ov iv v)
      release [v, ov, iv] []) := by intro _; rfl)
    (hs : swapsWithSole [.Subscript o (.Constant (.int (j : Int)) jc jp) sp] e pos.line X.env = pure false := by rfl) (hw : swappedStores [.Subscript o (.Constant (.int (j : Int)) jc jp) sp] e X.env = pure none := by rfl)
    (h1 : (assignEach [.Subscript o (.Constant (.int (j : Int)) jc jp) sp] X.env).map (·.2) = [assign (.Subscript o (.Constant (.int (j : Int)) jc jp) sp) X.env] := by rfl) : wS X (.Assign [.Subscript o (.Constant (.int (j : Int)) jc jp) sp] e pos) D σ H :=
  of_ps (ps_asg wE.pe (pg_sub wE.pe pe_int set_list ha) hs hw h1) (go_now g s2 fun v S1 H1 f1 hv => by
    have hv : v = .int i := hv
    subst hv
    refine ho S1 S1 H1 (Same.refl _) f1.sh _ fun w S2 H2 f2 hw => ?_
    have hw : w = .ref P := hw
    subst hw
    have F := fp_cut (f1.trans f2) s1
    have e0 := (f1.trans f2).hh _ _ h
    refine ⟨P, _, (j : Int), j, rfl, rfl, e0, ?_, k _ H2 F (F.fr P n (by rw [h]; exact fun z => nomatch z)) e0⟩
    unfold ixN
    have hj2 : (j : Int) < (([.int a, .int b, .int c, .int d] : List V).length : Int) := by
      show (j : Int) < 4
      omega
    rw [if_pos (Int.natCast_nonneg j), if_pos hj2, Int.toNat_natCast])
theorem ge_bits {apos : Pos} (h : GE X e σ S (dt i)) (hbase : attributeBase e "bit_length" X.env (eval e X.env) = eval e X.env := by rfl) (hline : (apos.endLine == pos.line) = true := by rfl) : GE X (.Call (.Attribute e "bit_length" apos) [] [] pos) σ S (dt ((Builtin.Int.intBits i : Nat) : Int)) :=
  ge_of (pe_bits wE.pe hbase hline) fun S1 H1 c d Q q => h S1 H1 c d _ fun v S2 H2 f hv => ⟨i, hv, q _ S2 H2 f rfl⟩
end
theorem bits_one {n : Int} (h0 : 0 < n) (h : n ≤ 1000) : (1 : Int) + ((Builtin.Int.intBits n : Nat) : Int).fdiv 28 = 1 := by
  have h1 : Builtin.Int.intBits n ≤ 10 := intBits_le (by omega)
  rw [Int.fdiv_eq_ediv_of_nonneg _ (by decide)]
  omega
abbrev n_s_law_draw : List Str := ["_law_purse_here", "_law_many", "_law_found", "_law_piece", "_law_drawn"]
theorem sc_law_draw : FnScope n_s_law_draw ["_law_purse_here", "_law_many"] (defScope s_law_draw) := ⟨rfl, rfl, rfl, by decide +kernel, rfl, by decide +kernel, by decide +kernel⟩
abbrev P_law_draw (K : PySem.W.Frag) : Sp := PrM (Int) (fun a => [dt a]) (fun a => drawn a) (fun a => 0 < a ∧ a ≤ 1000) 1
theorem w_law_draw (T : Top K mg) (c_law_mixed : Has P w K mg base "_law_mixed" ["_law_seed", "_law_turn", "_law_at"] 1 P_law_mixed) : Has P w K mg base "_law_draw" ["_law_purse_here", "_law_many"] 2 (P_law_draw K) := by
  obtain ⟨fd, F, g⟩ := T.fn 35 rfl rfl rfl
  refine has_ofM F g (F.bindsN fun _ _ _ _ _ _ us hl => match us, hl with | [_, _], _ => rfl) sc_law_draw (fun _ => rfl) ?_
  have nd := sc_law_draw.nd
  have b_range := T.free 68
  intro cdv A0 outer s H E hr many S PP m us D hS pu h hp q
  obtain ⟨v__law_many, _, rfl, h__law_many, rfl⟩ := h
  have h0 : 0 < many := hp.1
  have h1000 : many ≤ 1000 := hp.2
  have hmn : many ≠ 0 := by omega
  obtain ⟨a, b, c, d, hP, ha, hb, hb2, hc, hck, hd, hd2⟩ := pu.ex
  obtain ⟨s1, s2, rP⟩ := pu_data pu.no hP hS
  refine wss_cons (ws_ifX (kk := decide (0 < a)) _ s1 s2 (gt_gt (ge_ix (j := 0) (ge_name 0 rfl rP) ge_int rfl) ge_int) (fun hk S1 H1 f1 => ?_) (fun hk S1 H1 f1 => wss_nil ?_))
  · have pu1 := pu.go f1
    have hP1 : H1 PP = some (.lst [.int a, .int b, .int c, .int d]) := f1.hh _ _ hP
    obtain ⟨t1, t2, rP1⟩ := pu_data pu1.no hP1 f1.sh
    refine wss_cons (ws_set 4 (ge_mod (ge_ix (j := 0) (ge_name 0 rfl rP1) ge_int rfl) (ge_name 1 rfl (Rep.mono (f1.ss.trans t1) h__law_many)) hmn) t2 (fun v2 S2 H2 f2' h2 => ?_) nd)
    have f2 := fp_cut f2' t1
    have pu2 := pu1.go f2
    have hP2 : H2 PP = some (.lst [.int a, .int b, .int c, .int d]) := f2.hh _ _ hP1
    obtain ⟨u1, u2, rP2⟩ := pu_data pu2.no hP2 f2.sh
    refine wss_cons (ws_pset (j := 0) (by decide) pu2.no hP2 u1 u2 (ge_fdiv (ge_ix (j := 0) (ge_name 0 rfl rP2) ge_int rfl) (ge_name 1 rfl (Rep.mono ((f1.trans f2).ss.trans u1) h__law_many)) ⟨hmn, by omega⟩) (fun _ => ge_name 0 rfl rfl) (fun S3 H3 f3 n3 e3 => ?_))
    have F3 : Fm (MP PP) S H S3 (upd H3 PP (.lst [.int (a.fdiv many), .int b, .int c, .int d])) := (((f1.trans f2).trans f3).fm).mutD (.inr rfl) n3
    have hdv : 0 ≤ a.fdiv many := by rw [Int.fdiv_eq_ediv_of_nonneg _ (Int.le_of_lt h0)]; exact Int.ediv_nonneg ha (Int.le_of_lt h0)
    have pu3 : Pu S3 (upd H3 PP (.lst [.int (a.fdiv many), .int b, .int c, .int d])) PP m := ⟨n3, _, b, c, d, upd_same, hdv, hb, hb2, hc, by omega, hd, hd2⟩
    exact wss_one (ws_retM F3 (gm (ge_name (r := drawn many) 4 rfl ⟨_, ⟨Int.fmod_nonneg_of_pos a h0, Int.fmod_lt_of_pos a h0⟩, h2⟩)) pu3 q)
  · have pu1 := pu.go f1
    refine wss_cons (ws_set 2 ge_int f1.sh (fun v2 S2 H2 f2 h2 => ?_) nd)
    have pu2 := pu1.go f2
    have eb := bits_one h0 h1000
    refine wss_cons (ws_forP (M := MP PP) (B := Int) 3 (fun i => m + 1 - i) (fun b y => [some (.ref PP), some v__law_many, some (.int b), y, none]) (fun _ _ _ _ _ => True) (b0 := 0) (y0 := none) PassesOwn.never rfl nd
      (gim (gi_range' b_range (ge_add ge_int (ge_fdiv (ge_bits (ge_name 1 rfl (Rep.mono (f1.trans f2).ss h__law_many))) ge_int ⟨by decide, by decide⟩)) (by rw [eb]; decide) (by rw [eb]; decide))) ((f1.trans f2).fm) (fun a h => h) pu2 (Nat.le_refl _) (fun _ _ _ _ _ _ _ _ h => h) (fun _ _ _ _ _ => trivial) ?turn ?fin (by rw [show v2 = .int 0 from h2]; rfl))
    case turn =>
      intro xs i x v bb S3 S4 H4 hxs hx s3 s4 f4 pu4 _ hv
      subst hxs
      have hi : i < 1 := by
        have h9 := (List.getElem?_eq_some_iff.mp hx).1
        rw [eb, upto_len] at h9
        exact h9
      have hi0 : i = 0 := by omega
      subst hi0
      obtain ⟨a4, b4, c4, d4, hP4, ha4, hb4, hb42, hc4, hck4, hd4, hd42⟩ := pu4.ex
      obtain ⟨t1, t2, rP4⟩ := pu_data pu4.no hP4 f4.sh
      refine wss_cons (ws_pset (j := 2) (by decide) pu4.no hP4 t1 t2 (ge_add (ge_ix (j := 2) (ge_name 0 rfl rP4) ge_int rfl) ge_int) (fun _ => ge_name 0 rfl rfl) (fun S5 H5 f5 n5 e5 => ?_))
      have F5 : Fm (MP PP) S H S5 (upd H5 PP (.lst [.int a4, .int b4, .int (c4 + 1), .int d4])) := (f4.tp f5).mutD (.inr rfl) n5
      have pu5 : Pu S5 (upd H5 PP (.lst [.int a4, .int b4, .int (c4 + 1), .int d4])) PP m := ⟨n5, a4, b4, c4 + 1, d4, upd_same, ha4, hb4, hb42, by omega, by omega, hd4, hd42⟩
      obtain ⟨u1, u2, rP5⟩ := pu_data pu5.no upd_same F5.sh
      refine wss_one (ws_set 2 (ge_add (ge_mul (ge_name (r := dt bb) 2 rfl rfl) ge_int (.inr ⟨by decide, by decide⟩)) (ge_call (dt (l_mixed b4 (c4 + 1) d4)) c_law_mixed hr (b4, (c4 + 1, d4)) (gA_cons (ge_ix (j := 1) (ge_name 0 rfl rP5) ge_int rfl) (gA_cons (ge_ix (j := 2) (ge_name 0 rfl rP5) ge_int rfl) (gA_cons (ge_ix (j := 3) (ge_name 0 rfl rP5) ge_int rfl) gA_nil))) ⟨(show 0 ≤ c4 + 1 by omega), (show c4 + 1 ≤ 100000 by omega)⟩)) u2 (fun v6 S6 H6 f6' h6 => ?_) nd)
      have f6 := fp_cut f6' u1
      exact ⟨cutF S5 (upd H5 PP (.lst [.int a4, .int b4, .int (c4 + 1), .int d4])) S6, _, _, f5.ss.trans f6.ss, F5.tp f6, pu5.go f6, trivial, by rw [show v6 = .int _ from h6]; rfl⟩
    case fin =>
      intro xs bb y S3 S4 H4 hxs s3 s4 f4 pu4 _
      subst hxs
      rw [eb, upto_len] at pu4
      exact wss_one (ws_retM f4 (gm (ge_rex (p := fun i : Int => 0 ≤ i ∧ i < many) (ge_mod (ge_name (r := dt bb) 2 rfl rfl) (ge_name 1 rfl (Rep.mono ((((f1.trans f2).ss).trans s3).trans s4) h__law_many)) hmn) ⟨Int.fmod_nonneg_of_pos _ h0, Int.fmod_lt_of_pos _ h0⟩)) pu4 q)
end
end Cp
namespace Cp
open PySem PySem.Spec PyProof.Rows L2
section
variable {P : Program} {w : World} {K : PySem.W.Frag} {mg : Str → Option Value} {base : Heap}
abbrev n_s_law_one_of : List Str := ["_law_purse_here", "_law_some"]
theorem sc_law_one_of : FnScope n_s_law_one_of ["_law_purse_here", "_law_some"] (defScope s_law_one_of) := ⟨rfl, rfl, rfl, by decide +kernel, rfl, by decide +kernel, by decide +kernel⟩
abbrev P_law_one_of (α : Type) [Rep α] (K : PySem.W.Frag) : Sp := PrM (List α) (fun a => [dt a]) (fun a => rEx fun y : α => y ∈ a) (fun a => a ≠ [] ∧ a.length ≤ 1000) 1
theorem w_law_one_of (α : Type) [Rep α] (T : Top K mg) (c_law_draw : Has P w K mg base "_law_draw" ["_law_purse_here", "_law_many"] 2 (P_law_draw K)) : Has P w K mg base "_law_one_of" ["_law_purse_here", "_law_some"] 3 (P_law_one_of α K) := by
  obtain ⟨fd, F, g⟩ := T.fn 37 rfl rfl rfl
  refine has_ofM F g (F.bindsN fun _ _ _ _ _ _ us hl => match us, hl with | [_, _], _ => rfl) sc_law_one_of (fun _ => rfl) ?_
  have nd := sc_law_one_of.nd
  have b_len := T.free 61
  intro cdv A0 outer s H E hr xs S PP m us D hS pu h hp q
  obtain ⟨v__law_some, _, rfl, h__law_some, rfl⟩ := h
  have h0 : xs.length ≠ 0 := fun z => hp.1 (List.eq_nil_of_length_eq_zero z)
  have h1 : xs.length ≤ 1000 := hp.2
  exact wss_one (ws_retM (Fm.refl hS) (gm_ixE (gm (ge_name 1 rfl h__law_some)) (gm_call (drawn (xs.length : Int)) c_law_draw hr (ge_name 0 rfl rfl) (gM_cons (gm (ge_len b_len (ge_name 1 rfl h__law_some))) gM_nil) (fun S vs h => ⟨(xs.length : Int), h, ⟨by omega, by omega⟩, fun _ _ h => h⟩)) (fun i hi => ⟨hi.1, by have := hi.2; omega⟩)) pu q)
theorem ins_perm {α : Type} (ys : List α) (y : α) (i : Nat) : (ys.take i ++ [y] ++ ys.drop i).Perm (ys ++ [y]) := by
  have h1 : (ys.take i ++ [y] ++ ys.drop i).Perm (ys.take i ++ (ys.drop i ++ [y])) := by
    rw [List.append_assoc]
    exact List.Perm.append_left _ List.perm_append_comm
  rw [← List.append_assoc, List.take_append_drop] at h1
  exact h1
abbrev n_s_law_shuffled : List Str := ["_law_purse_here", "_law_some", "_law_found", "_law_item"]
theorem sc_law_shuffled : FnScope n_s_law_shuffled ["_law_purse_here", "_law_some"] (defScope s_law_shuffled) := ⟨rfl, rfl, rfl, by decide +kernel, rfl, by decide +kernel, by decide +kernel⟩
abbrev P_law_shuffled (α : Type) [Rep α] (K : PySem.W.Frag) : Sp := PrM (List α) (fun a => [dt a]) (fun a => rEx fun ys : List α => ys.Perm a) (fun a => a.length ≤ 10) 10
theorem w_law_shuffled (α : Type) [Rep α] (T : Top K mg) (c_law_draw : Has P w K mg base "_law_draw" ["_law_purse_here", "_law_many"] 2 (P_law_draw K)) : Has P w K mg base "_law_shuffled" ["_law_purse_here", "_law_some"] 3 (P_law_shuffled α K) := by
  obtain ⟨fd, F, g⟩ := T.fn 38 rfl rfl rfl
  refine has_ofM F g (F.bindsN fun _ _ _ _ _ _ us hl => match us, hl with | [_, _], _ => rfl) sc_law_shuffled (fun _ => rfl) ?_
  have nd := sc_law_shuffled.nd
  have b_len := T.free 61
  intro cdv A0 outer s H E hr xs S PP m us D hS pu h hp q
  obtain ⟨v__law_some, _, rfl, h__law_some, rfl⟩ := h
  have hz : xs.length ≤ 10 := hp
  refine wss_cons (ws_own (γ := α) (i := 2) nd hS (fun l H1 nl f1 e1 w1 => ?_))
  have hlP : l ≠ PP := fun z => pu.live (z ▸ nl)
  refine wss_cons (ws_forP (M := MP PP) (B := List α) 3 (fun i => m + 10 - i) (fun b y => [some (.ref PP), some v__law_some, some (.ref l), y]) (fun _ i ys S H => Own S H l ys ∧ ys.Perm (xs.take i)) (b0 := []) (y0 := none) PassesOwn.never rfl nd
    (gim (gi_list (ge_name 1 rfl (Rep.mono f1.ss h__law_some)))) f1.fm (fun a h => h) (pu.go f1) (Nat.le_refl _) (fun _ _ _ _ _ _ _ f h => ⟨h.1.go f, h.2⟩) (fun _ S2 H2 _ f2 => ⟨w1.gom f2 (fun z => hlP z), by simp⟩) ?turn ?fin)
  case turn =>
    intro xs' i x v ys S2 S3 H3 hxs hx s2 s3 f3 pu3 hR hv
    subst hxs
    obtain ⟨w3, hpm⟩ := hR
    have hlen : ys.length ≤ 10 := by
      rw [hpm.length_eq, List.length_take]
      omega
    have hi : i < xs'.length := (List.getElem?_eq_some_iff.mp hx).1
    have ek : m + 10 - i = (m + 10 - (i + 1)) + 1 := by omega
    rw [ek] at pu3
    refine wss_one (ws_ownins (a := _) w3 hlP pu3 f3.sh (by show _ < 4000; omega) (fun S1 s1 => ge_name 2 rfl rfl) (fun S1 s1 rl => gm_imp (gm_call (drawn ((ys.length : Int) + 1)) c_law_draw hr (ge_name 0 rfl rfl) (gM_cons (gm (ge_add (ge_len b_len (ge_name 2 rfl rl)) ge_int)) gM_nil) (fun S vs h => ⟨((ys.length : Int) + 1), h, ⟨by omega, by omega⟩, fun _ _ h => h⟩)) (fun S v h => by obtain ⟨i, h1, h2⟩ := h; exact ⟨i, ⟨h1.1, by have := h1.2; omega⟩, h2⟩)) (fun S1 s1 => ge_name 3 rfl rfl) hv
      (fun j S4 H4 H5 f4 n4 pu4 e5 hj w4 => ⟨S4, _, some v, f4.ss, ?_, pu4, ⟨w4, ?_⟩, rfl⟩))
    · obtain ⟨o, rfl⟩ := e5
      exact (f3.trans f4).mutD (.inl nl) n4
    · rw [take_snoc hx]
      exact (ins_perm ys x j).trans (hpm.append_right _)
  case fin =>
    intro xs' ys y S2 S3 H3 hxs s2 s3 f3 pu3 hR
    subst hxs
    obtain ⟨w3, hpm⟩ := hR
    obtain ⟨acc, e1, e2⟩ := w3.ex
    rw [List.take_length] at hpm
    have h3 : Rep.rep (upd S3 l (.lst acc)) (.ref l) ys := own_done w3.no e2 (by rw [hpm.length_eq]; exact Nat.le_trans hz (by decide))
    have f4 := f3.keepD nl w3.no e1
    have pu4 : Pu (upd S3 l (.lst acc)) H3 PP m := ⟨by rw [upd_ne (fun z => hlP z.symm)]; exact pu3.no, (pu3.le (by omega)).ex⟩
    exact wss_one (ws_retM f4 (gm (ge_name (r := rEx fun zs : List α => zs.Perm xs') 2 rfl ⟨ys, hpm, h3⟩)) pu4 q)
def lowC (c : Nat) : Prop := 97 ≤ c ∧ c ≤ 122
instance (c : Nat) : Decidable (lowC c) := inferInstanceAs (Decidable (_ ∧ _))
def allIn (w : Str) : Prop := ∀ c ∈ w.cps.toList, lowC c
theorem letters_low : ∀ c ∈ letters.cps.toList, lowC c := by decide +kernel
theorem letters_size : letters.cps.size = 26 := by decide +kernel
theorem low_signs {c : Nat} (h : lowC c) : sg c ∈ signs letters := by
  have e : signs letters = (List.range 26).map fun k => sg (97 + k) := by decide +kernel
  rw [e]
  obtain ⟨h1, h2⟩ := h
  exact List.mem_map.mpr ⟨c - 97, List.mem_range.mpr (by omega), by rw [show 97 + (c - 97) = c by omega]⟩
theorem sOk_of {w : Str} (h : allIn w) (hz : w.length ≤ 100) : sOk w := by
  refine ⟨?_, Nat.le_trans hz (by decide)⟩
  unfold PyData.strOk
  rw [Array.all_eq_true_iff_forall_mem]
  intro c hc
  have h1 := (h c (Array.mem_toList_iff.mpr hc)).2
  exact decide_eq_true (by omega)
theorem one_low {c : Nat} (h : lowC c) : allIn ⟨#[c]⟩ ∧ sOk ⟨#[c]⟩ := by
  have h1 : allIn ⟨#[c]⟩ := fun d hd => by
    have hd : d = c := by simpa using hd
    rw [hd]; exact h
  exact ⟨h1, sOk_of h1 (by show 1 ≤ 100; decide)⟩
theorem len_app (x y : Str) : (x ++ y).length = x.length + y.length := Array.size_append
theorem allIn_app {x y : Str} (hx : allIn x) (hy : allIn y) : allIn (x ++ y) := by
  intro c hc
  have e : (x ++ y).cps.toList = x.cps.toList ++ y.cps.toList := Array.toList_append
  rw [e] at hc
  rcases List.mem_append.mp hc with h | h
  · exact hx c h
  · exact hy c h
theorem name_of {w : Str} (h : allIn w) (h1 : 1 ≤ w.length) (h8 : w.length ≤ 8) : m_is_name w = true := by
  unfold m_is_name
  have e1 : decide ((w.length : Int) < 1) = false := decide_eq_false (by omega)
  have e2 : decide ((8 : Int) < (w.length : Int)) = false := decide_eq_false (by omega)
  rw [e1, e2]
  refine decide_eq_true (List.filter_eq_nil_iff.mpr fun y hy => ?_)
  unfold signs at hy
  obtain ⟨c, hc, rfl⟩ := List.mem_map.mp hy
  unfold inSign
  simp [low_signs (h c hc)]
section
variable {X : Cx} {σ : L2.St} {S : Hp} {P : Addr} {k k1 k2 : Nat} {a b : Expr} {pos : Pos}
theorem gm_itemE {z : Str} {p : Int → Prop} {q : Str → Prop} (ha : GM X a σ S P k k1 (dt z)) (hb : GM X b σ S P k1 k2 (rEx p)) (h : ∀ i, p i → 0 ≤ i ∧ i.toNat < z.cps.size) (hz : z.cps.size ≤ 4000) (hq : ∀ c ∈ z.cps.toList, q ⟨#[c]⟩ ∧ sOk ⟨#[c]⟩) (hs : PlainIxT b := by exact fun _ _ => rfl) : GM X (.Subscript a b pos) σ S P k k2 (rEx q) :=
  gm_op (pe_item_str wE.pe wE.pe hs) ha hb (opd_ex2 fun i hi => fun S1 H1 v w _ d hv hw Q qq => by
    obtain ⟨h0, h1⟩ := h i hi
    obtain ⟨rfl, _⟩ := hv
    have hw : w = .int i := hw
    have e : z.cps[i.toNat]? = some z.cps[i.toNat] := Array.getElem?_eq_getElem h1
    obtain ⟨q1, q2⟩ := hq z.cps[i.toNat] (Array.mem_toList_iff.mpr (Array.getElem_mem h1))
    exact ⟨z, i, _, rfl, hw, h0, by omega, (show i < ((z.cps.size : Nat) : Int) by omega), e, qq _ S1 H1 (Fp.refl d) ⟨_, q1, rfl, q2⟩⟩)
theorem gm_scatE {p1 p2 p : Str → Prop} (ha : GM X a σ S P k k1 (rEx p1)) (hb : GM X b σ S P k1 k2 (rEx p2)) (hz : ∀ x y, p1 x → p2 y → x.length + y.length ≤ most) (ho : ∀ x y, p1 x → p2 y → p (x ++ y) ∧ sOk (x ++ y)) : GM X (.BinOp a .Add b pos) σ S P k k2 (rEx p) :=
  gm_op (pe_op op_add_str wE.pe wE.pe) ha hb (opd_ex1 fun x hx => opd_ex2 fun y hy => fun S1 H1 v w _ d hv hw Q q => ⟨x, y, hv.1, hw.1, small_line (hz x y hx hy), q _ S1 H1 (Fp.refl d) ⟨_, (ho x y hx hy).1, rfl, (ho x y hx hy).2⟩⟩)
end
abbrev n_s_law_word : List Str := ["_law_purse_here", "_law_found", "_law_turn"]
theorem sc_law_word : FnScope n_s_law_word ["_law_purse_here"] (defScope s_law_word) := ⟨rfl, rfl, rfl, by decide +kernel, rfl, by decide +kernel, by decide +kernel⟩
abbrev P_law_word (K : PySem.W.Frag) : Sp := PrM (Unit) (fun a => []) (fun a => rEx fun w : Str => m_is_name w = true) (fun a => True) 9
theorem w_law_word (T : Top K mg) (c_law_draw : Has P w K mg base "_law_draw" ["_law_purse_here", "_law_many"] 2 (P_law_draw K)) : Has P w K mg base "_law_word" ["_law_purse_here"] 3 (P_law_word K) := by
  obtain ⟨fd, F, g⟩ := T.fn 39 rfl rfl rfl
  refine has_ofM F g (F.bindsN fun _ _ _ _ _ _ us hl => match us, hl with | [_], _ => rfl) sc_law_word (fun _ => rfl) ?_
  have nd := sc_law_word.nd
  have b_range := T.free 68
  intro cdv A0 outer s H E hr _ S PP m us D hS pu h hp q
  have h : us = [] := h
  subst h
  refine wss_cons (ws_set 1 (ge_str (i := "")) hS (fun v1 S1 H1 f1 h1 => ?_) nd)
  have pu1 := pu.go f1
  refine wss_cons (ws_forP (M := MP PP) (B := Str) 2 (fun i => m + 8 - i) (fun b y => [some (.ref PP), some (.str b), y]) (fun xs i b S H => b.length = i ∧ allIn b ∧ xs.length ≤ 8 ∧ 1 ≤ xs.length) (b0 := "") (y0 := none) PassesOwn.never rfl nd
    (gim_range (k' := m + 8) (q := fun i => 1 ≤ i ∧ i ≤ 8) b_range (gm_addI (p1 := fun i => i = 1) (p2 := fun i => 0 ≤ i ∧ i < 8) (gm (ge_rex ge_int rfl)) (gm_call (drawn 8) c_law_draw hr (ge_name 0 rfl rfl) (gM_cons (gm ge_int) gM_nil) (fun S vs h => ⟨8, h, ⟨by decide, by decide⟩, fun _ _ h => h⟩)) (fun i j hi hj => ⟨by omega, by omega⟩)) (fun i hi => ⟨by omega, by omega⟩)) f1.fm (fun a h => h) pu1 (Nat.le_refl _) (fun _ _ _ _ _ _ _ _ h => h)
    (fun xs _ _ hxs _ => ⟨rfl, (fun c hc => by cases hc), (by obtain ⟨i, hi, rfl⟩ := hxs; rw [upto_len]; omega), (by obtain ⟨i, hi, rfl⟩ := hxs; rw [upto_len]; omega)⟩) ?turn ?fin (by obtain ⟨rfl, _⟩ := h1; rfl))
  case turn =>
    intro xs i x v bb S2 S3 H3 hxs hx s2 s3 f3 pu3 hR hv
    obtain ⟨hbl, hba, hx8, hx1⟩ := hR
    have hi : i < xs.length := (List.getElem?_eq_some_iff.mp hx).1
    have ek : m + 8 - i = (m + 8 - (i + 1)) + 1 := by omega
    rw [ek] at pu3
    refine wss_one (ws_setM 1 (gm_scatE (p2 := fun z : Str => z.length = 1 ∧ allIn z) (p := fun z : Str => z.length = i + 1 ∧ allIn z) (gm (ge_name (r := rEx fun z : Str => z = bb) 1 rfl ⟨bb, rfl, rfl, sOk_of hba (by omega)⟩)) (gm_itemE (z := letters) (gm (ge_str (i := "abcdefghijklmnopqrstuvwxyz"))) (gm_call (drawn 26) c_law_draw hr (ge_name 0 rfl rfl) (gM_cons (gm ge_int) gM_nil) (fun S vs h => ⟨26, h, ⟨by decide, by decide⟩, fun _ _ h => h⟩)) (fun i hi => ⟨hi.1, by rw [letters_size]; have := hi.2; omega⟩) (by rw [letters_size]; decide) (fun c hc => ⟨⟨rfl, (one_low (letters_low c hc)).1⟩, (one_low (letters_low c hc)).2⟩))
      (fun x y hx hy => by subst hx; have := hy.1; show _ ≤ 4000; omega) (fun x y hx hy => by subst hx; exact ⟨⟨by rw [len_app, hbl, hy.1], allIn_app hba hy.2⟩, sOk_of (allIn_app hba hy.2) (by rw [len_app, hbl, hy.1]; omega)⟩)) f3.sh pu3 (fun v4 S4 H4 f4 pu4 h4 => ?_) nd)
    obtain ⟨z, ⟨hz1, hz2⟩, rfl, _⟩ := h4
    exact ⟨S4, z, some v, f4.ss, f3.trans f4, pu4, ⟨hz1, hz2, hx8, hx1⟩, rfl⟩
  case fin =>
    intro xs bb y S2 S3 H3 hxs s2 s3 f3 pu3 hR
    obtain ⟨hbl, hba, hx8, hx1⟩ := hR
    exact wss_one (ws_retM f3 (gm (ge_name (r := rEx fun w : Str => m_is_name w = true) 1 rfl ⟨bb, name_of hba (by omega) (by omega), rfl, sOk_of hba (by omega)⟩)) (pu3.le (by omega)) q)
end
end Cp
namespace Cp
open PySem PySem.Spec PyProof.Rows L2
section
variable {P : Program} {w : World} {K : PySem.W.Frag} {mg : Str → Option Value} {base : Heap}
structure OkN (names : List Str) : Prop where
  nd : names.Nodup
  ok : ∀ n ∈ names, m_is_name n = true
  so : srt names = names
  lo : 1 ≤ names.length
  hi : names.length ≤ 4
def pool8 : List Str := ["ale", "bun", "cob", "a", "zz", "egg", "marrows", "jam"]
theorem pool8_nd : pool8.Nodup := by decide +kernel
theorem pool8_ok : ∀ n ∈ pool8, m_is_name n = true := by decide +kernel
def poolF (fr : Str) : List Str := pool8 ++ List.filter (fun (y : Str) => (!decide (y ∈ pool8))) ([fr] : List Str)
theorem poolF_len (fr : Str) : 8 ≤ (poolF fr).length ∧ (poolF fr).length ≤ 9 := by
  unfold poolF
  have h := List.length_filter_le (fun (y : Str) => (!decide (y ∈ pool8))) ([fr] : List Str)
  have e : pool8.length = 8 := rfl
  rw [List.length_append, e]
  simp only [List.length_singleton] at h
  omega
theorem okN_of {fr : Str} (hf : m_is_name fr = true) {xs : List Str} (h : xs.Perm (poolF fr)) {k : Nat} (h1 : 1 ≤ k) (h4 : k ≤ 4) : OkN (srt (xs.take k)) := by
  have hnd : (poolF fr).Nodup := by
    unfold poolF
    rw [List.nodup_append]
    refine ⟨pool8_nd, List.Pairwise.filter _ (by simp), fun a ha b hb e => ?_⟩
    subst e
    have h2 := (List.mem_filter.mp hb).2
    simp [ha] at h2
  have hok : ∀ n ∈ poolF fr, m_is_name n = true := fun n hn => by
    unfold poolF at hn
    rcases List.mem_append.mp hn with z | z
    · exact pool8_ok n z
    · have h2 := (List.mem_filter.mp z).1
      rw [List.mem_singleton.mp h2]; exact hf
  have hl : (xs.take k).length = k := by
    rw [List.length_take, h.length_eq]
    have := (poolF_len fr).1
    omega
  refine ⟨?_, fun n hn => ?_, srt_srt _, by rw [srt_len, hl]; exact h1, by rw [srt_len, hl]; exact h4⟩
  · exact (srt_perm _).nodup_iff.mpr ((h.nodup_iff.mpr hnd).sublist (List.take_sublist _ _))
  · exact hok n (h.mem_iff.mp (List.mem_of_mem_take (srt_mem.mp hn)))
theorem all2_one {S : Hp} {r : Rl} {vs : List V} (h : All2 S [r] vs) : ∃ v, vs = [v] ∧ r.p S v := by
  obtain ⟨v, _, rfl, h1, rfl⟩ := h
  exact ⟨v, rfl, h1⟩
abbrev n_s_law_names : List Str := ["_law_purse_here", "_law_many", "_law_some", "_law_fresh", "_law_word_here"]
theorem sc_law_names : FnScope n_s_law_names ["_law_purse_here", "_law_many"] (defScope s_law_names) := ⟨rfl, rfl, rfl, by decide +kernel, rfl, by decide +kernel, by decide +kernel⟩
abbrev P_law_names (K : PySem.W.Frag) : Sp := PrM (Int) (fun a => [dt a]) (fun a => rEx fun names : List Str => OkN names) (fun a => 1 ≤ a ∧ a ≤ 4) 19
theorem w_law_names (T : Top K mg) (c_law_word : Has P w K mg base "_law_word" ["_law_purse_here"] 3 (P_law_word K)) (c_law_shuffledS : Has P w K mg base "_law_shuffled" ["_law_purse_here", "_law_some"] 3 (P_law_shuffled Str K)) : Has P w K mg base "_law_names" ["_law_purse_here", "_law_many"] 4 (P_law_names K) := by
  obtain ⟨fd, F, g⟩ := T.fn 40 rfl rfl rfl
  refine has_ofM F g (F.bindsN fun _ _ _ _ _ _ us hl => match us, hl with | [_, _], _ => rfl) sc_law_names (fun _ => rfl) ?_
  have nd := sc_law_names.nd
  have b_sorted := T.free 64
  intro cdv A0 outer s H E hr many S PP m us D hS pu h hp q
  obtain ⟨v__law_many, _, rfl, h__law_many, rfl⟩ := h
  have hm1 : 1 ≤ many := hp.1
  have hm4 : many ≤ 4 := hp.2
  refine wss_cons (ws_parMG (k' := m + 10) 2 3 rfl nd (gM_cons (gm (show GE _ _ _ _ (dt pool8) from (ge_lst (xs := ([("ale" : Str), ("bun" : Str), ("cob" : Str), ("a" : Str), ("zz" : Str), ("egg" : Str), ("marrows" : Str), ("jam" : Str)] : List Str)) (gA_cons ge_str (gA_cons ge_str (gA_cons ge_str (gA_cons ge_str (gA_cons ge_str (gA_cons ge_str (gA_cons ge_str (gA_cons ge_str gA_nil))))))))))) (gM_cons (gm_call (k' := m + 10) (rEx fun w : Str => m_is_name w = true) c_law_word hr (ge_name 0 rfl rfl) gM_nil (fun S vs h => ⟨(), h, trivial, fun _ _ h => h⟩)) gM_nil)) hS pu (fun v1 v2 S1 H1 f1 pu1 h1 h2 => ?_))
  obtain ⟨fr, hfn, hfr⟩ := h2
  exact wss_one (ws_retM f1 (gm_sortedE (q1 := fun xs : List Str => OkN (srt xs)) hr b_sorted (gm_toE (q1 := fun xs : List Str => xs.Perm (poolF fr)) (p := fun i : Int => i = many) (gm_call (k' := m) (rEx fun xs : List Str => xs.Perm (poolF fr)) c_law_shuffledS hr (ge_name 0 rfl rfl) (gM_cons (gm (ge_cat (ge_name 2 rfl h1) (ge_flt n_s_law_names (defScope s_law_names) 4 (fun (y57 : Str) => (!decide (y57 ∈ pool8))) rfl nd (gi_list (ge_lst (xs := ([fr] : List Str)) (gA_cons (ge_name 3 rfl hfr) gA_nil))) (by show 1 ≤ 4000; decide) (fun y57 v57 S57 hs57 hm57 hv57 _ _ _ _ _ => gts_one (gt_ni hr (ge_name 4 rfl hv57) (ge_name 2 rfl (Rep.mono hs57 h1)))) (fun y57 v57 S57 hs57 hm57 hp57 hv57 _ _ _ _ _ => (ge_name 4 rfl hv57))) (by show _ ≤ 4000; have h9 := (poolF_len fr).2; unfold poolF at h9; rw [List.length_append] at h9; omega))) gM_nil) (fun S vs h => ⟨poolF fr, h, Nat.le_trans (poolF_len fr).2 (by decide), fun _ _ h => h⟩)) (gm (ge_rex (ge_name 1 rfl (Rep.mono f1.ss h__law_many)) rfl)) (fun i hi => by omega) (fun xs n hx hn => by subst hn; exact okN_of hfn hx (by omega) (by omega))) (fun xs h => h)) pu1 q)
section
variable {X : Cx} {σ : L2.St} {S : Hp} {P : Addr} {k k1 k2 : Nat} {a b : Expr} {es : List Expr} {p pos : Pos} {i j : Int}
theorem boot_max' : bootBuiltins "max" = some (.builtin "max") := by decide +kernel
theorem boot_min' : bootBuiltins "min" = some (.builtin "min") := by decide +kernel
theorem ge_max (hm : X.mg "max" = none) (ha : GE X a σ S (dt i)) (hb : GE X b σ S (dt j)) (hc : X.calm = true := by rfl) (hg : Gl X "max" := by rfl) (hs : starEach [a, b] X.env = (false, eval a X.env) :: starEach [b] X.env := by rfl) (hs2 : starEach [b] X.env = (false, eval b X.env) :: starEach [] X.env := by rfl)
    (hpl : (backTo pos (starEach [b] X.env)).any (·.1) = false := by rfl) : GE X (.Call (.Name "max" p) [a, b] [] pos) σ S (dt (if j > i then j else i)) :=
  ge_of (pe_callB (call_max2 hc) hg hm boot_max' (pa_cons wE.pe (pa_cons wE.pe pa_nil hs2) hs) (by decide) (by decide) hs hpl) (go_cb (ga_cons ha (ga_cons hb ga_nil)) fun S1 H1 vs _ d hv Q q => by
    obtain ⟨v, _, rfl, h1, w, _, rfl, h2, rfl⟩ := hv
    exact ⟨i, j, by rw [show v = .int i from h1, show w = .int j from h2], q _ S1 H1 (Fp.refl d) rfl⟩)
theorem ge_min (hm : X.mg "min" = none) (ha : GE X a σ S (dt i)) (hb : GE X b σ S (dt j)) (hc : X.calm = true := by rfl) (hg : Gl X "min" := by rfl) (hs : starEach [a, b] X.env = (false, eval a X.env) :: starEach [b] X.env := by rfl) (hs2 : starEach [b] X.env = (false, eval b X.env) :: starEach [] X.env := by rfl)
    (hpl : (backTo pos (starEach [b] X.env)).any (·.1) = false := by rfl) : GE X (.Call (.Name "min" p) [a, b] [] pos) σ S (dt (if j < i then j else i)) :=
  ge_of (pe_callB (call_min2 hc) hg hm boot_min' (pa_cons wE.pe (pa_cons wE.pe pa_nil hs2) hs) (by decide) (by decide) hs hpl) (go_cb (ga_cons ha (ga_cons hb ga_nil)) fun S1 H1 vs _ d hv Q q => by
    obtain ⟨v, _, rfl, h1, w, _, rfl, h2, rfl⟩ := hv
    exact ⟨i, j, by rw [show v = .int i from h1, show w = .int j from h2], q _ S1 H1 (Fp.refl d) rfl⟩)
/-- a list of four, some drawn -/
theorem gm_lst4 {α : Type} [Rep α] {q : α → Prop} (h : GAM X es σ S P k k1 [rEx q, rEx q, rEx q, rEx q]) : GM X (.List es pos) σ S P k k1 (rEx fun xs : List α => (∀ x ∈ xs, q x) ∧ xs.length = 4) :=
  let ⟨_, p, g⟩ := h
  gm_of (pe_lst p) fun S1 H1 c d pu Q qq => g S1 H1 c d pu _ fun vs S2 H2 f pu2 hv => by
    obtain ⟨v1, _, rfl, ⟨x1, q1, h1⟩, v2, _, rfl, ⟨x2, q2, h2⟩, v3, _, rfl, ⟨x3, q3, h3⟩, v4, _, rfl, ⟨x4, q4, h4⟩, rfl⟩ := hv
    refine ⟨(by show 4 ≤ sizeLine; decide), fun l hl => ?_⟩
    have n := Fp.new (o := .lst [v1, v2, v3, v4]) f.sh hl
    refine qq _ _ _ (f.tp n) (pu2.go n) ⟨[x1, x2, x3, x4], ⟨fun x hx => ?_, rfl⟩, l, _, rfl, upd_same, (by show 4 ≤ 4000; decide), .cons (Rep.mono n.ss h1) (.cons (Rep.mono n.ss h2) (.cons (Rep.mono n.ss h3) (.cons (Rep.mono n.ss h4) .nil)))⟩
    rcases List.mem_cons.mp hx with rfl | hx
    · exact q1
    rcases List.mem_cons.mp hx with rfl | hx
    · exact q2
    rcases List.mem_cons.mp hx with rfl | hx
    · exact q3
    rcases List.mem_cons.mp hx with rfl | hx
    · exact q4
    · cases hx
end
abbrev n_s_law_some_names : List Str := ["_law_purse_here", "_law_most"]
theorem sc_law_some_names : FnScope n_s_law_some_names ["_law_purse_here", "_law_most"] (defScope s_law_some_names) := ⟨rfl, rfl, rfl, by decide +kernel, rfl, by decide +kernel, by decide +kernel⟩
abbrev P_law_some_names (K : PySem.W.Frag) : Sp := PrM (Unit) (fun a => [dt (4 : Int)]) (fun a => rEx fun names : List Str => OkN names) (fun a => True) 21
theorem w_law_some_names (T : Top K mg) (c_law_names : Has P w K mg base "_law_names" ["_law_purse_here", "_law_many"] 4 (P_law_names K)) (c_law_one_ofI : Has P w K mg base "_law_one_of" ["_law_purse_here", "_law_some"] 3 (P_law_one_of Int K)) (c_law_draw : Has P w K mg base "_law_draw" ["_law_purse_here", "_law_many"] 2 (P_law_draw K)) : Has P w K mg base "_law_some_names" ["_law_purse_here", "_law_most"] 5 (P_law_some_names K) := by
  obtain ⟨fd, F, g⟩ := T.fn 51 rfl rfl rfl
  refine has_ofM F g (F.bindsN fun _ _ _ _ _ _ us hl => match us, hl with | [_, _], _ => rfl) sc_law_some_names (fun _ => rfl) ?_
  have nd := sc_law_some_names.nd
  have b_max := T.free 71
  intro cdv A0 outer s H E hr _ S PP m us D hS pu h hp q
  obtain ⟨v__law_most, _, rfl, h__law_most, rfl⟩ := h
  refine wss_one (ws_retM (Fm.refl hS) (gm_call (k' := m) (rEx fun names : List Str => OkN names) c_law_names hr (ge_name 0 rfl rfl) (gM_cons (gm_call (k' := m + 19) (rEx fun i : Int => 1 ≤ i ∧ i ≤ 4) c_law_one_ofI hr (ge_name 0 rfl rfl) (gM_cons (gm_lst4 (k1 := m + 20) (q := fun i : Int => 1 ≤ i ∧ i ≤ 4) (gM_cons (gm (ge_rex (p := fun i : Int => 1 ≤ i ∧ i ≤ 4) (ge_name 1 rfl h__law_most) ⟨by decide, by decide⟩)) (gM_cons (gm (ge_rex (p := fun i : Int => 1 ≤ i ∧ i ≤ 4) (ge_name 1 rfl h__law_most) ⟨by decide, by decide⟩)) (gM_cons (gm (ge_rex (p := fun i : Int => 1 ≤ i ∧ i ≤ 4) (ge_max (i := 1) (j := 4 - 1) b_max ge_int (ge_sub (ge_name 1 rfl h__law_most) ge_int)) ⟨by decide, by decide⟩)) (gM_cons (gm_addI (p := fun i : Int => 1 ≤ i ∧ i ≤ 4) (p1 := fun i => i = 1) (p2 := fun i => 0 ≤ i ∧ i < 4) (gm (ge_rex ge_int rfl)) (gm_call (drawn 4) c_law_draw hr (ge_name 0 rfl rfl) (gM_cons (gm (ge_name 1 rfl h__law_most)) gM_nil) (fun S vs h => ⟨4, h, ⟨by decide, by decide⟩, fun _ _ h => h⟩)) (fun i j hi hj => ⟨by omega, by omega⟩)) gM_nil))))) gM_nil) (fun S vs h => ?a1)) gM_nil) (fun S vs h => ?a2)) pu q)
  case a1 =>
    obtain ⟨v, rfl, xs, ⟨hx, hl⟩, hv⟩ := all2_one h
    exact ⟨xs, ⟨v, [], rfl, hv, rfl⟩, ⟨(fun z => by subst z; cases hl), (by rw [hl]; decide)⟩, fun S' v' h => by obtain ⟨y, hy, h⟩ := h; exact ⟨y, hx y hy, h⟩⟩
  case a2 =>
    obtain ⟨v, rfl, i, hi, hv⟩ := all2_one h
    exact ⟨i, ⟨v, [], rfl, hv, rfl⟩, hi, fun _ _ h => h⟩
end
end Cp
namespace Cp
open PySem PySem.Spec PyProof.Rows L2
section
variable {P : Program} {w : World} {K : PySem.W.Frag} {mg : Str → Option Value} {base : Heap}
theorem head_perm {names r0 base : List Str} (hn : names.Nodup) (h0 : r0.Perm names) (hb : base.Perm names) (j : Nat) : (r0.take j ++ base.filter fun (y : Str) => !decide (y ∈ r0.take j)).Perm names := by
  have h1 : (base.filter fun (y : Str) => !decide (y ∈ r0.take j)).Perm (r0.filter fun (y : Str) => !decide (y ∈ r0.take j)) := (hb.trans h0.symm).filter _
  have hnd : r0.Nodup := h0.nodup_iff.mpr hn
  have h2 : (r0.filter fun (y : Str) => !decide (y ∈ r0.take j)) = r0.drop j := by
    have e : r0 = r0.take j ++ r0.drop j := (List.take_append_drop j r0).symm
    have hd : (r0.take j ++ r0.drop j).Nodup := by rw [← e]; exact hnd
    have hdis := (List.nodup_append.mp hd).2.2
    have e1 : (r0.take j).filter (fun (y : Str) => !decide (y ∈ r0.take j)) = [] := List.filter_eq_nil_iff.mpr fun y hy => by simp [hy]
    have e2 : (r0.drop j).filter (fun (y : Str) => !decide (y ∈ r0.take j)) = r0.drop j := List.filter_eq_self.mpr fun y hy => by
      have : ¬ y ∈ r0.take j := fun z => hdis y z y hy rfl
      simp [this]
    calc (r0.filter fun (y : Str) => !decide (y ∈ r0.take j)) = ((r0.take j ++ r0.drop j).filter fun (y : Str) => !decide (y ∈ r0.take j)) := by rw [← e]
      _ = r0.drop j := by rw [List.filter_append, e1, e2, List.nil_append]
  rw [h2] at h1
  have h3 := (List.Perm.append_left (r0.take j) h1)
  rw [List.take_append_drop] at h3
  exact h3.trans h0
theorem Own.ne {γ : Type} [Rep γ] {S H : Hp} {l P : Addr} {ys : List γ} (h : H l = none) {S' H' : Hp} {k : Nat} (pu : Pu S' H P k) : l ≠ P := fun z => pu.live (z ▸ h)
abbrev n_s_law_rows_of : List Str := ["_law_purse_here", "_law_names_here", "_law_many", "_law_way", "_law_turn", "_law_base", "_law_found", "_law_row", "_law_cut", "_law_head", "_law_name"]
theorem sc_law_rows_of : FnScope n_s_law_rows_of ["_law_purse_here", "_law_names_here", "_law_many"] (defScope s_law_rows_of) := ⟨rfl, rfl, rfl, by decide +kernel, rfl, by decide +kernel, by decide +kernel⟩
abbrev P_law_rows_of (K : PySem.W.Frag) : Sp := PrM (List Str × Int) (fun a => [dt a.1, dt a.2]) (fun a => rEx fun rows : List (List Str) => rows.length = a.2.toNat ∧ ∀ r ∈ rows, r.Perm a.1) (fun a => OkN a.1 ∧ 1 ≤ a.2 ∧ a.2 ≤ 5) 80
theorem w_law_rows_of (T : Top K mg) (c_law_shuffledS : Has P w K mg base "_law_shuffled" ["_law_purse_here", "_law_some"] 3 (P_law_shuffled Str K)) (c_law_draw : Has P w K mg base "_law_draw" ["_law_purse_here", "_law_many"] 2 (P_law_draw K)) : Has P w K mg base "_law_rows_of" ["_law_purse_here", "_law_names_here", "_law_many"] 4 (P_law_rows_of K) := by
  obtain ⟨fd, F, g⟩ := T.fn 41 rfl rfl rfl
  refine has_ofM F g (F.bindsN fun _ _ _ _ _ _ us hl => match us, hl with | [_, _, _], _ => rfl) sc_law_rows_of (fun _ => rfl) ?_
  have nd := sc_law_rows_of.nd
  have b_range := T.free 68
  have b_len := T.free 61
  intro cdv A0 outer s H E hr ⟨names, many⟩ S PP m us D hS pu h hp q
  obtain ⟨v__law_names_here, _, rfl, h__law_names_here, v__law_many, _, rfl, h__law_many, rfl⟩ := h
  have hN : OkN names := hp.1
  have hm1 : 1 ≤ many := hp.2.1
  have hm5 : many ≤ 5 := hp.2.2
  have hn4 : names.length ≤ 4 := hN.hi
  have hn1 : 1 ≤ names.length := hN.lo
  refine wss_cons (ws_parMO 5 6 (k' := m + 70) rfl nd (gm_call (rEx fun ys : List Str => ys.Perm names) c_law_shuffledS hr (ge_name 0 rfl rfl) (gM_cons (gm (ge_name 1 rfl h__law_names_here)) gM_nil) (fun S vs h => ⟨names, h, Nat.le_trans hn4 (by decide), fun _ _ h => h⟩)) hS pu (fun vb l S1 H1 f1 pu1 h1 nl1 => ?_))
  obtain ⟨bs, hbp, hb⟩ := h1
  have nl : H l = none := by
    cases e : H l with
    | none => rfl
    | some o => exact absurd nl1 (f1.al l (by rw [e]; exact fun z => nomatch z))
  have hlP : l ≠ PP := fun z => pu.live (z ▸ nl)
  have f2 : Fm (MP PP) S H S1 (upd H1 l (.lst [])) := f1.mutD (.inl nl) (same_none f1.sh nl1)
  have pu2 := pu1.mut (o := .lst []) hlP
  have w2 : Own (γ := List Str) S1 (upd H1 l (.lst [])) l [] := ⟨same_none f1.sh nl1, [], upd_same, .nil⟩
  refine wss_cons (ws_setM (k' := m + 69) 3 (gm_call (drawn 3) c_law_draw hr (ge_name 0 rfl rfl) (gM_cons (gm ge_int) gM_nil) (fun S vs h => ⟨3, h, ⟨by decide, by decide⟩, fun _ _ h => h⟩)) f2.sh pu2 (fun vw S3 H3 f3 pu3 h3 => ?_) nd)
  obtain ⟨wy, ⟨hw0, hw3⟩, hw⟩ := h3
  have f3' := f2.trans f3
  refine wss_cons (ws_forP (M := MP PP) (B := List (List Str) × Option V × Option V × Option V) 4 (fun i => m + 60 - 12 * i) (fun b y => [some (.ref PP), some v__law_names_here, some v__law_many, some vw, y, some vb, some (.ref l), b.2.1, b.2.2.1, b.2.2.2, none]) (fun xs i b S H => Own S H l b.1 ∧ b.1.length = i ∧ ∀ r ∈ b.1, r.Perm names) (b0 := ([], none, none, none)) (y0 := none) PassesOwn.never rfl nd
    (gim (gi_range' b_range (ge_name 2 rfl (Rep.mono f3'.ss h__law_many)) (by omega) (by show _ ≤ 4000; omega))) f3' (fun a h => h) pu3 (by omega) (fun _ _ _ _ _ _ _ f h => ⟨h.1.go f, h.2⟩) (fun xs S4 H4 hxs f4 => ⟨(w2.gom f3 (fun z => hlP z)).gom f4 (fun z => hlP z), rfl, by simp⟩) ?turn ?fin)
  case turn =>
    intro xs i x v b S4 S5 H5 hxs hx s4 s5 f5 pu5 hR hv
    subst hxs
    obtain ⟨w5, hyl, hyp⟩ := hR
    have hi : i < 5 := by
      have h1 := (List.getElem?_eq_some_iff.mp hx).1
      rw [upto_len] at h1
      omega
    have ek : m + 60 - 12 * i = (m + 60 - 12 * (i + 1)) + 12 := by omega
    rw [ek] at pu5
    have s05 : Same S S5 := (f3'.ss.trans s4).trans s5
    refine wss_cons (ws_setM (k' := m + 60 - 12 * (i + 1) + 2) 7 (gm_call (rEx fun ys : List Str => ys.Perm names) c_law_shuffledS hr (ge_name 0 rfl rfl) (gM_cons (gm (ge_name 1 rfl (Rep.mono s05 h__law_names_here))) gM_nil) (fun S vs h => ⟨names, h, Nat.le_trans hn4 (by decide), fun _ _ h => h⟩)) f5.sh pu5 (fun v6 S6 H6 f6 pu6 h6 => ?_) nd)
    obtain ⟨r0, hp0, h6⟩ := h6
    have f06 := f5.trans f6
    have w6 := w5.gom f6 (fun z => hlP z)
    have hw6 : Rep.rep S6 vw wy := Rep.mono ((s4.trans s5).trans f6.ss) hw
    refine wss_cons (ws_if (gt_gt (ge_name 3 rfl hw6) ge_int) f06.sh (fun hk S7' H7' f7' => ?thn) (fun hk S7 H7 f7 => wss_nil ?els))
    case els =>
      refine wss_one ?_
      exact (ws_ownapp (w6.go f7) (ge_name 6 rfl (show (rRef l).p _ (.ref l) from rfl)) (ge_name 7 rfl (Rep.mono f7.ss h6)) f7.sh (by show _ < 4000; omega) (fun S9 H9 H10 f9 e10 w10 => ⟨S9, (b.1 ++ [r0], some v6, b.2.2.1, b.2.2.2), some v, (f6.ss.trans f7.ss).trans f9.ss, (by obtain ⟨o, rfl⟩ := e10; exact ((f06.tp f7).tp f9).mutD (.inl nl) w10.no), (by obtain ⟨o, rfl⟩ := e10; exact (((pu6.go f7).le (by omega)).go f9).mut hlP), ⟨w10, (by rw [List.length_append, List.length_singleton, hyl]), (fun r hr2 => by
          rcases List.mem_append.mp hr2 with z | z
          · exact hyp r z
          · rw [List.mem_singleton.mp z]; exact hp0)⟩, rfl⟩))
    case thn =>
      have hk : 0 < wy := of_decide_eq_true hk
      have pu7' := pu6.go f7'
      have hll : r0.length = names.length := hp0.length_eq
      refine wss_cons (ws_parMG (k' := m + 60 - 12 * (i + 1)) 8 9 rfl nd (gM_cons (gm_call (k' := m + 60 - 12 * (i + 1) + 1) (drawn (names.length : Int)) c_law_draw hr (ge_name 0 rfl rfl) (gM_cons (gm (ge_len b_len (ge_name 1 rfl (Rep.mono ((s05.trans f6.ss).trans f7'.ss) h__law_names_here)))) gM_nil) (fun S vs h => ⟨(names.length : Int), h, ⟨by omega, by omega⟩, fun _ _ h => h⟩))
        (gM_cons (gm_toE (q1 := fun z => z = r0) (q := fun z : List Str => ∃ j, z = r0.take j) (p := fun i : Int => 0 ≤ i) (gm (ge_rex (ge_name 7 rfl (Rep.mono f7'.ss h6)) rfl)) (gm_subI (p1 := fun i : Int => 1 ≤ i) (p2 := fun i : Int => i = 1) (gm_addI (p1 := fun i : Int => 0 ≤ i ∧ i < 3) (p2 := fun i : Int => i = wy) (p := fun i : Int => 1 ≤ i) (gm_call (drawn 3) c_law_draw hr (ge_name 0 rfl rfl) (gM_cons (gm ge_int) gM_nil) (fun S vs h => ⟨3, h, ⟨by decide, by decide⟩, fun _ _ h => h⟩)) (gm (ge_rex (ge_name 3 rfl (Rep.mono f7'.ss hw6)) rfl)) (fun i j hi hj => by omega)) (gm (ge_rex ge_int rfl)) (fun i j hi hj => by omega)) (fun i hi => hi) (fun z n hz hn => ⟨n.toNat, by rw [hz]⟩)) gM_nil)) f7'.sh pu7' (fun v7 v7b S7 H7 f7 pu7 h7 h7b => ?_))
      obtain ⟨c, hc0, hc⟩ := h7
      obtain ⟨hd, ⟨j, rfl⟩, hh⟩ := h7b
      have f07 := (f06.tp f7').trans f7
      have s7 : Same S1 S7 := ((((f3.ss.trans s4).trans s5).trans f6.ss).trans f7'.ss).trans f7.ss
      have hbl : bs.length = names.length := hbp.length_eq
      refine wss_cons (ws_set 7 (ge_cat (ge_name 9 rfl hh) (ge_flt n_s_law_rows_of (defScope s_law_rows_of) 10 (fun (y58 : Str) => (!decide (y58 ∈ (r0.take j)))) rfl nd (gi_list (ge_name 5 rfl (Rep.mono s7 hb))) (rep_small (Rep.mono s7 hb)) (fun y58 v58 S58 hs58 hm58 hv58 _ _ _ _ _ => gts_one (gt_ni hr (ge_name 10 rfl hv58) (ge_name 9 rfl (Rep.mono hs58 hh)))) (fun y58 v58 S58 hs58 hm58 hp58 hv58 _ _ _ _ _ => (ge_name 10 rfl hv58))) (by show _ ≤ 4000; have h9 := (head_perm hN.nd hp0 hbp j).length_eq; rw [List.length_append] at h9; omega)) f07.sh (fun v8 S8 H8 f8 h8' => ?_) nd)
      have hp8 := head_perm hN.nd hp0 hbp j
      generalize hr1 : (r0.take j ++ (List.filter (fun (y : Str) => (!decide (y ∈ r0.take j))) bs)) = r1 at hp8
      have h8 : Rep.rep S8 v8 r1 := cast_rep hr1 h8'
      refine wss_one (ws_set 7 (ge_cond (gt_gt (ge_name 8 rfl (Rep.mono f8.ss hc)) ge_int) (fun _ => (ge_name 7 rfl h8)) (fun _ => (ge_rev (ge_name 7 rfl h8)))) f8.sh (fun v9 S9' H9' f9' h9 => ?_) nd)
      have hpc : ((cond (decide ((0 : Int) < c)) r1 (List.reverse r1))).Perm names := by
        cases (decide ((0 : Int) < c)) with
        | true => exact hp8
        | false => exact r1.reverse_perm.trans hp8
      have f09 := (f07.tp f8).tp f9'
      refine wss_one ?_
      exact (ws_ownapp ((((w6.go f7').gom f7 (fun z => hlP z)).go f8).go f9') (ge_name 6 rfl (show (rRef l).p _ (.ref l) from rfl)) (ge_name 7 rfl h9) f09.sh (by show _ < 4000; omega) (fun S9 H9 H10 f9 e10 w10 => ⟨S9, (b.1 ++ [(cond (decide ((0 : Int) < c)) r1 (List.reverse r1))], some v9, some v7, some v7b), some v, ((((f6.ss.trans f7'.ss).trans f7.ss).trans f8.ss).trans f9'.ss).trans f9.ss, (by obtain ⟨o, rfl⟩ := e10; exact (f09.tp f9).mutD (.inl nl) w10.no), (by obtain ⟨o, rfl⟩ := e10; exact (((pu7.go f8).go f9').go f9).mut hlP), ⟨w10, (by rw [List.length_append, List.length_singleton, hyl]), (fun r hr2 => by
          rcases List.mem_append.mp hr2 with z | z
          · exact hyp r z
          · rw [List.mem_singleton.mp z]; exact hpc)⟩, rfl⟩))
  case fin =>
    intro xs b y S4 S5 H5 hxs s4 s5 f5 pu5 hR
    subst hxs
    obtain ⟨w5, hyl, hyp⟩ := hR
    obtain ⟨acc, e1, e2⟩ := w5.ex
    rw [upto_len] at hyl
    have h3 : Rep.rep (upd S5 l (.lst acc)) (.ref l) b.1 := own_done w5.no e2 (by show _ ≤ 4000; omega)
    have f6 := f5.keepD nl w5.no e1
    have pu6 : Pu (upd S5 l (.lst acc)) H5 PP m := ⟨by rw [upd_ne (fun z => hlP z.symm)]; exact pu5.no, (pu5.le (by rw [upto_len]; omega)).ex⟩
    exact wss_one (ws_retM f6 (gm (ge_name (r := rEx fun rows : List (List Str) => rows.length = many.toNat ∧ ∀ r ∈ rows, r.Perm names) 6 rfl ⟨b.1, ⟨hyl, hyp⟩, h3⟩)) pu6 q)
structure OPre (names : List Str) (base : List (List Str)) : Prop where
  ok : OkN names
  lo : 1 ≤ base.length
  hi : base.length ≤ 5
  pm : ∀ r ∈ base, r.Perm names
  own : ∀ ln ∈ l_own_lines names base, ln.lot.length ≤ 100 ∧ ∀ row ∈ l_all_rows names, ln.who ∈ row
  ne : l_kept_rows names (l_own_lines names base) [] ≠ []
  kp : ∀ r ∈ l_kept_rows names (l_own_lines names base) [], r.Perm names
abbrev okRows (names : List Str) (rows : List (List Str)) : Prop := 1 ≤ rows.length ∧ rows.length ≤ 10 ∧ ∀ r ∈ rows, r.Perm names
theorem all2_two {S : Hp} {r1 r2 : Rl} {vs : List V} (h : All2 S [r1, r2] vs) : ∃ v w, vs = [v, w] ∧ r1.p S v ∧ r2.p S w := by
  obtain ⟨v, _, rfl, h1, w, _, rfl, h2, rfl⟩ := h
  exact ⟨v, w, rfl, h1, h2⟩
abbrev n_s_law_other_rows : List Str := ["_law_purse_here", "_law_names_here", "_law_base", "_law_way", "_law_good", "_law_found", "_law_turn"]
theorem sc_law_other_rows : FnScope n_s_law_other_rows ["_law_purse_here", "_law_names_here", "_law_base"] (defScope s_law_other_rows) := ⟨rfl, rfl, rfl, by decide +kernel, rfl, by decide +kernel, by decide +kernel⟩
abbrev P_law_other_rows (K : PySem.W.Frag) : Sp := PrM (List Str × List (List Str)) (fun a => [dt a.1, dt a.2]) (fun a => rEx fun rows : List (List Str) => okRows a.1 rows) (fun a => OPre a.1 a.2) 100
theorem w_law_other_rows (T : Top K mg) (c_law_draw : Has P w K mg base "_law_draw" ["_law_purse_here", "_law_many"] 2 (P_law_draw K)) (c_law_rows_of : Has P w K mg base "_law_rows_of" ["_law_purse_here", "_law_names_here", "_law_many"] 4 (P_law_rows_of K)) (c_law_kept_rows : Has P w K mg base "_law_kept_rows" ["_law_names_here", "_law_lines", "_law_wishes"] 3 P_law_kept_rows) (c_law_own_lines : Has P w K mg base "_law_own_lines" ["_law_names_here", "_law_rows"] 5 P_law_own_lines) (c_law_shuffledL : Has P w K mg base "_law_shuffled" ["_law_purse_here", "_law_some"] 3 (P_law_shuffled (List Str) K)) (c_law_one_ofL : Has P w K mg base "_law_one_of" ["_law_purse_here", "_law_some"] 3 (P_law_one_of (List Str) K)) : Has P w K mg base "_law_other_rows" ["_law_purse_here", "_law_names_here", "_law_base"] 6 (P_law_other_rows K) := by
  obtain ⟨fd, F, g⟩ := T.fn 56 rfl rfl rfl
  refine has_ofM F g (F.bindsN fun _ _ _ _ _ _ us hl => match us, hl with | [_, _, _], _ => rfl) sc_law_other_rows (fun _ => rfl) ?_
  have nd := sc_law_other_rows.nd
  have b_range := T.free 68
  have b_len := T.free 61
  intro cdv A0 outer s H E hr ⟨names, base_⟩ S PP m us D hS pu h hp q
  obtain ⟨v__law_names_here, _, rfl, h__law_names_here, v__law_base, _, rfl, h__law_base, rfl⟩ := h
  have hN : OkN names := hp.ok
  have hb5 : base_.length ≤ 5 := hp.hi
  have hb1 : 1 ≤ base_.length := hp.lo
  have hown : names.length ≤ 4 ∧ base_.length ≤ 20 ∧ ∀ n ∈ names, ∀ row ∈ base_, n ∈ row := ⟨hN.hi, Nat.le_trans hp.hi (by decide), fun n hn row hr => (hp.pm row hr).mem_iff.mpr hn⟩
  refine wss_cons (ws_setM (k' := m + 99) 3 (gm_call (drawn 5) c_law_draw hr (ge_name 0 rfl rfl) (gM_cons (gm ge_int) gM_nil) (fun S vs h => ⟨5, h, ⟨by decide, by decide⟩, fun _ _ h => h⟩)) hS pu (fun vw S1 H1 f1 pu1 h1 => ?_) nd)
  obtain ⟨wy, hwr, hw⟩ := h1
  refine wss_cons (ws_if (gt_eq hr (ge_name 3 rfl hw) ge_int) f1.sh (fun hk S2 H2 f2 => ?_) (fun hk S2 H2 f2 => wss_nil ?_))
  · have pu2 := pu1.go f2
    exact wss_one (ws_retM (f1.tp f2) (gm_le (gm_call (k' := m) (rEx fun rows : List (List Str) => okRows names rows) c_law_rows_of hr (ge_name 0 rfl rfl) (gM_cons (gm (ge_name (r := dt names) 1 rfl (Rep.mono (f1.tp f2).ss h__law_names_here))) (gM_cons (gm_addI (p := fun i : Int => 1 ≤ i ∧ i ≤ 3) (p1 := fun i => i = 1) (p2 := fun i => 0 ≤ i ∧ i < 3) (gm (ge_rex ge_int rfl)) (gm_le (k1 := m + 98) (gm_call (drawn 3) c_law_draw hr (ge_name 0 rfl rfl) (gM_cons (gm ge_int) gM_nil) (fun S vs h => ⟨3, h, ⟨by decide, by decide⟩, fun _ _ h => h⟩))) (fun i j hi hj => ⟨by omega, by omega⟩)) gM_nil)) (fun S vs h => by
      obtain ⟨v, w, rfl, h1, i, hi, h2⟩ := all2_two h
      refine ⟨(names, i), ⟨v, _, rfl, h1, w, _, rfl, h2, rfl⟩, ⟨hN, hi.1, (show i ≤ 5 by omega)⟩, fun S' v' h => ?_⟩
      obtain ⟨rows, ⟨hl, hpp⟩, h⟩ := h
      have hl : rows.length = i.toNat := hl
      exact ⟨rows, ⟨by omega, by omega, hpp⟩, h⟩))) pu2 q)
  refine wss_cons (ws_if (gt_eq hr (ge_name 3 rfl (Rep.mono f2.ss hw)) ge_int) f2.sh (fun hk S3 H3 f3 => ?_) (fun hk S3 H3 f3 => wss_nil ?_))
  · have pu3 := (pu1.go f2).go f3
    exact wss_one (ws_retM ((f1.tp f2).tp f3) (gm_catE (p1 := fun z => z = base_) (p2 := fun z : List (List Str) => z.length = 1 ∧ ∀ r ∈ z, r.Perm names) (gm (ge_rex (ge_name 2 rfl (Rep.mono ((f1.tp f2).tp f3).ss h__law_base)) rfl)) (gm_le (k1 := m + 19) (gm_call (rEx fun z : List (List Str) => z.length = 1 ∧ ∀ r ∈ z, r.Perm names) c_law_rows_of hr (ge_name 0 rfl rfl) (gM_cons (gm (ge_name 1 rfl (Rep.mono ((f1.tp f2).tp f3).ss h__law_names_here))) (gM_cons (gm ge_int) gM_nil)) (fun S vs h => ⟨(names, 1), h, ⟨hN, (show (1 : Int) ≤ 1 by decide), (show (1 : Int) ≤ 5 by decide)⟩, fun _ _ h => h⟩)))
      (fun x y hx hy => by subst hx; have := hy.1; show _ ≤ 4000; omega) (fun x y hx hy => by
        subst hx
        refine ⟨by rw [List.length_append]; omega, by rw [List.length_append, hy.1]; omega, fun r hr2 => ?_⟩
        rcases List.mem_append.mp hr2 with z | z
        · exact hp.pm r z
        · exact hy.2 r z)) pu3 q)
  refine wss_cons (ws_if (gt_w (gw_and (gt_eq hr (ge_name 3 rfl (Rep.mono (f2.trans f3).ss hw)) ge_int) fun _ => (gw_and1 (gt_gt (ge_len b_len (ge_name 2 rfl (Rep.mono ((f1.trans f2.fm).tp f3).ss h__law_base))) ge_int)))) f3.sh (fun hk S4 H4 f4 => ?_) (fun hk S4 H4 f4 => wss_nil ?_))
  · have pu4 := ((pu1.go f2).go f3).go f4
    have h2 : 1 < base_.length := by
      have h3 := (Bool.and_eq_true_iff.mp hk).2
      have h4 : (1 : Int) < (base_.length : Int) := of_decide_eq_true h3
      omega
    exact wss_one (ws_retM (((f1.tp f2).tp f3).tp f4) (gm (ge_rex (x := base_.drop 1) (p := fun rows : List (List Str) => okRows names rows) (ge_tail (ge_name 2 rfl (Rep.mono (((f1.tp f2).tp f3).tp f4).ss h__law_base))) ⟨by rw [List.length_drop]; omega, by rw [List.length_drop]; omega, fun r hr2 => hp.pm r (List.mem_of_mem_drop hr2)⟩)) (pu4.le (by omega)) q)
  have pu4 := ((pu1.go f2).go f3).go f4
  have s4 : Same S S4 := (((f1.tp f2).tp f3).tp f4).ss
  have hgl : (l_kept_rows names (l_own_lines names base_) []).length ≤ 256 := by
    unfold l_kept_rows
    refine flt_le (Nat.le_trans (iterR_bd hN.hi _).1 ?_)
    have h9 : (4 : Nat) ^ names.length ≤ 4 ^ 4 := Nat.pow_le_pow_right (by decide) hN.hi
    exact h9
  refine wss_cons (ws_set 4 (ge_call (dt (l_kept_rows names (l_own_lines names base_) ([] : List (List Str × Str)))) c_law_kept_rows hr (names, (l_own_lines names base_), ([] : List (List Str × Str))) (gA_cons (ge_name 1 rfl (Rep.mono s4 h__law_names_here)) (gA_cons (ge_call (dt (l_own_lines names base_)) c_law_own_lines hr (names, base_) (gA_cons (ge_name 1 rfl (Rep.mono s4 h__law_names_here)) (gA_cons (ge_name 2 rfl (Rep.mono s4 h__law_base)) gA_nil)) hown) (gA_cons ge_nil gA_nil))) ⟨hN.hi, rfl, hp.own⟩) f4.sh (fun vg S5 H5 f5 hg => ?_) nd)
  have pu5 := pu4.go f5
  have f05 := (((f1.tp f2).tp f3).tp f4).tp f5
  refine wss_cons (ws_setM (k' := m) 5 (gm_catE (p1 := fun z : List (List Str) => z.Perm base_) (p2 := fun z : List (List Str) => z.length ≤ 2 ∧ ∀ r ∈ z, r.Perm names) (p := fun rows : List (List Str) => okRows names rows) (gm_call (k' := m + 89) (rEx fun z : List (List Str) => z.Perm base_) c_law_shuffledL hr (ge_name 0 rfl rfl) (gM_cons (gm (ge_name 2 rfl (Rep.mono f05.ss h__law_base))) gM_nil) (fun S vs h => ⟨base_, h, Nat.le_trans hb5 (by decide), fun _ _ h => h⟩)) ?comp
      (fun x y hx hy => by have h1 := hx.length_eq; have h2 := hy.1; show _ ≤ 4000; omega) (fun x y hx hy => by
        have h1 := hx.length_eq
        have h2 := hy.1
        refine ⟨by rw [List.length_append]; omega, by rw [List.length_append]; omega, fun r hr2 => ?_⟩
        rcases List.mem_append.mp hr2 with z | z
        · exact hp.pm r (hx.mem_iff.mp z)
        · exact hy.2 r z)) f05.sh pu5 (fun vf S6 H6 f6 pu6 h6 => ?rest) nd)
  case comp =>
    refine gm_imp (gm_lcM (n := 2) (k' := m) (r := fun r : List Str => r.Perm names) n_s_law_other_rows (defScope s_law_other_rows) 6 rfl nd (gim_range (k' := m + 2) (q := fun i : Int => 1 ≤ i ∧ i ≤ 2) b_range (gm_addI (p1 := fun i => i = 1) (p2 := fun i => 0 ≤ i ∧ i < 2) (gm (ge_rex ge_int rfl)) (gm_le (k1 := m + 88) (gm_call (drawn 2) c_law_draw hr (ge_name 0 rfl rfl) (gM_cons (gm ge_int) gM_nil) (fun S vs h => ⟨2, h, ⟨by decide, by decide⟩, fun _ _ h => h⟩))) (fun i j hi hj => ⟨by omega, by omega⟩)) (fun i hi => ⟨by omega, by omega⟩)) (fun xs hx => by obtain ⟨i, hi, rfl⟩ := hx; rw [upto_len]; omega) (by decide)
      (fun y v S9 j s9 hv9 _ _ _ _ _ => gm_call (rEx fun r : List Str => r.Perm names) c_law_one_ofL hr (ge_name 0 rfl rfl) (gM_cons (gm (ge_name 4 rfl (Rep.mono s9 hg))) gM_nil) (fun S vs h => ⟨_, h, ⟨hp.ne, Nat.le_trans hgl (by decide)⟩, fun S' v' h => by obtain ⟨y, hy, h⟩ := h; exact ⟨y, hp.kp y hy, h⟩⟩))) (fun S v h => ?_)
    obtain ⟨ys, ⟨⟨xs, ⟨i, hi, rfl⟩, hl⟩, hyr⟩, h⟩ := h
    rw [upto_len] at hl
    exact ⟨ys, ⟨by omega, hyr⟩, h⟩
  case rest =>
    obtain ⟨fd2, ⟨k1, k2, k3⟩, hf⟩ := h6
    have s6 : Same S1 S6 := (((f2.trans f3).trans f4).trans f5).ss.trans f6.ss
    refine wss_one (ws_retM (f05.trans f6) (gm (ge_rex (p := fun rows : List (List Str) => okRows names rows) (ge_cond (gt_w (gw_and (gt_eq hr (ge_name 3 rfl (Rep.mono s6 hw)) ge_int) fun _ => (gw_and1 (gt_gt (ge_len b_len (ge_name 5 rfl hf)) ge_int)))) (fun _ => (ge_tail (ge_name 5 rfl hf))) (fun _ => (ge_name 5 rfl hf))) ?_)) pu6 q)
    cases e : (decide (wy = (3 : Int)) && decide ((1 : Int) < (fd2.length : Int))) with
    | true =>
      have h4 : (1 : Int) < (fd2.length : Int) := of_decide_eq_true (Bool.and_eq_true_iff.mp e).2
      exact ⟨by show 1 ≤ (fd2.drop 1).length; rw [List.length_drop]; omega, by show (fd2.drop 1).length ≤ 10; rw [List.length_drop]; omega, fun r hr2 => k3 r (List.mem_of_mem_drop hr2)⟩
    | false => exact ⟨k1, k2, k3⟩
end
end Cp
namespace Cp
open PySem PySem.Spec PyProof.Rows L2
section
variable {X : Cx} {σ : L2.St} {S H S0 H0 : Hp} {P : Addr} {k k' cost : Nat} {e a b o : Expr} {es : List Expr} {body els : List Stmt} {r r1 r2 : Rl} {rs : List Rl} {p pos pos' : Pos} {D : Ends} {x : Str} {ps : List Str} {lv lv' : Nat} {A : Type} {arg : A → List Rl} {res : A → Rl} {pre : A → Prop} {C : Addr}
theorem gm_make (r : Rl) (F : HasC X.prog X.w X.K X.mg X.base x C ps lv (PrI C A arg res pre)) (hr : Room lv' X.A) (ha : GAM X (e :: es) σ S P k k' rs) (hx : ∀ S vs, All2 S rs vs → ∃ a, All2 S (arg a) vs ∧ pre a ∧ ∀ S' v, (res a).p S' v → r.p S' v)
    (hk : lv + 1 ≤ lv' := by decide) (hg : Gl X x := by rfl) (hdb : (x == ("__debug__" : Str)) = false := by decide)
    (he : starEach (e :: es) X.env = (false, eval e X.env) :: starEach es X.env := by rfl) (hpl : (backTo pos (starEach es X.env)).any (·.1) = false := by rfl) : GM X (.Call (.Name x p) (e :: es) [] pos) σ S P k k' r := by
  obtain ⟨f, fd, hm, M, hb, G⟩ := F.ex
  obtain ⟨t, pa, ga⟩ := ha
  refine gm_of (pe_make M G (hr.mono hk) hg hm hb .nil pass0 pa hdb he hpl) fun S1 H1 c d pu Q q => ga S1 H1 c d pu _ fun vs S2 H2 f2 pu2 hv y dx ny ndy nex => ?_
  obtain ⟨a, h1, h2, h3⟩ := hx S2 vs hv
  rw [List.append_nil]
  exact ⟨a, y, dx, H2, S2, vs, rfl, ny, ndy, nex, rfl, f2.sh, h1, h2, fun S' H' f3 h => ⟨rfl, q _ S' H' (f2.tp f3) (pu2.go f3) (h3 _ _ h)⟩⟩
/-- if not e: .., e drawing and true -/
theorem ws_ifNotM (g : GM X e σ S P k k' (dt true)) (hS : Same S H) (pu : Pu S H P k) (h2 : ∀ S' H', Fm (MP P) S H S' H' → Pu S' H' P k' → wSs X els D σ H')
    (he : ∀ whole, isTrue e X.env whole = (do let v ← whole; standAt e.pos; holding [v] (truthy v)) := by intro _; rfl) : wS X (.If (.UnaryOp .Not e p) body els pos) D σ H :=
  of_ps (ps_if (pt_not (pt_val wE.pe he)) wSs.ps wSs.ps) (g S H (Same.refl _) hS pu _ fun v S' H' f pu hv => ⟨true, hv, iteF (h2 S' H' f pu)⟩)
/-! texts of truth values -/
def boolS (b : Bool) : Str := if b = true then "True" else "False"
theorem boolS_ok : ∀ b, sOk (boolS b) := by decide +kernel
theorem boolS_inj : ∀ a b, boolS a = boolS b → a = b := by decide +kernel
theorem call_str_bl : CallR X (.type "str") (fun xs H Q => ∃ b, xs = [.bl b] ∧ Q (.str (boolS b)) H) := by
  intro pins s σ H xs us Q I r h
  obtain ⟨b, rfl, q⟩ := h
  obtain ⟨u, rfl, ru⟩ := r.one
  cases ru
  refine PySem.P.str_of_bool ⟨.str (boolS b), H, I.tok _, ?_, q⟩
  cases b
  · exact ⟨_, rfl⟩
  · exact ⟨_, rfl⟩
theorem ge_strB {b : Bool} (hm : X.mg "str" = none) (h : GE X e σ S (dt b)) (hg : Gl X "str" := by rfl) (hs : starEach [e] X.env = (false, eval e X.env) :: starEach [] X.env := by rfl) (hpl : (backTo pos (starEach [] X.env)).any (·.1) = false := by rfl) :
    GE X (.Call (.Name "str" p) [e] [] pos) σ S (dt (boolS b)) :=
  ge_of (pe_callTy call_str_bl hg hm boot_str' (pa_cons wE.pe pa_nil hs) (by decide) (by decide) hs hpl) (go_cb (ga_cons h ga_nil) fun S1 H1 vs _ d hv Q q => by
    obtain ⟨v, _, rfl, hv, rfl⟩ := hv
    exact ⟨b, by rw [show v = .bl b from hv], q _ S1 H1 (Fp.refl d) ⟨rfl, boolS_ok b⟩⟩)
/-! ** of numbers of any written size -/
def CPowX (i j : Int) : Prop := 0 ≤ j ∧ (Builtin.Int.intBits i : Int) * j ≤ 2 ^ 27
theorem op_powX : OpR X (binaryOp .Pow) (rI CPowX fun i j => .int (i ^ j.toNat)) := opI fun _ _ _ _ _ _ _ hc q => pow_int hc.1 hc.2 q
theorem ge_powX {i j : Int} (ha : GE X a σ S (dt i)) (hb : GE X b σ S (dt j)) (hc : CPowX i j) : GE X (.BinOp a .Pow b pos) σ S (dt (i ^ j.toNat)) := ge_of (pe_op op_powX wE.pe wE.pe) (go_op ha hb (opd_I hc))
end
/-! ### new copies, spoilt -/
section
variable {X : Cx} {σ : L2.St} {S H Sb Hb S' H' : Hp} {e o : Expr} {pos pos' ap cp : Pos} {D : Ends} {n : List Str} {t : List Ln} {lv lv' : Nat} {l q pp : Addr} {vs us : List V} {w u : V}
theorem freshLns.ofb {H0 H1 S : Hp} {v : V} (e : Same H1 H0) (h : freshLns H0 S v) : freshLns H1 S v := by
  obtain ⟨l, vs, rfl, h1, h2, h3⟩ := h
  exact ⟨l, vs, rfl, same_none e h1, h2, fun t ht => (h3 t ht).ofb e⟩
theorem ws_lines (i : Nat) {x : Str} {pl : Sem Bool} (T : Top X.K X.mg) (F : HasM X.prog X.w X.K X.mg X.base (cB X.K) "lines" ["self"] lv (sp_lines X.K)) (hr : Room lv' X.A) (ho : GE X o σ S (bok X.K n t)) (hS : Same S H) (k : ∀ v S' H', Fp S H S' H' → Rep.rep S' v t → freshLns H S' v → D.nx (σ.set i (some v)) H') (hN : X.N.Nodup) (hk : lv ≤ lv' := by decide)
    (hi : X.N[i]? = some x := by rfl) (hx : Loc X.env.scope x := by first | exact Or.inl rfl | exact Or.inr rfl)
    (ht : eval (.Call (.Attribute o "lines" ap) [] [] cp) X.env = (do
      let ov ← eval o X.env
      standAt ap.atName
      let (f, first) ← holding [ov] (getMethod ov "lines" pl)
      callWith cp f first (backTo cp (starEach [] X.env)) (backToKw cp (keywordEach [] X.env))) := by rfl)
    (hs : swapsWith (.Call (.Attribute o "lines" ap) [] [] cp) (some (.Name x pos')) pos.line X.env = pure false := by rfl) (hf : X.fn x = true ∨ X.env.scope.names.lookup x = some .local := by first | exact .inl rfl | exact .inr rfl) : wS X (.Assign [.Name x pos'] (.Call (.Attribute o "lines" ap) [] [] cp) pos) D σ H := by
  obtain ⟨f, fd, hM, hb, G⟩ := F.ex
  refine of_ps (ps_set hN hi hx (pe_meth0 wE.pe T.clsB hM G (hr.mono hk) hb .nil pass0 ht) hs hf) (ho S H (Same.refl _) hS _ fun v S2 H2 f2 hv => ?_)
  obtain ⟨p, dx, ws, rfl, h1, h2⟩ := id hv
  exact ⟨p, dx, _, rfl, f2.sh _ _ h1, no_fldB (by decide) ws, (n, t), S2, f2.sh, ⟨_, _, rfl, hv, rfl⟩, fun v S' H' f3 g1 g2 => k v S' H' (f2.trans f3) g1 (g2.ofb f2.hh)⟩
/-- what changed is not among the old: the data as before -/
theorem fp_old {H2 : Hp} (hS : Same Sb Hb) (f : Same Hb H2) : Fp Sb Hb Sb H2 := ⟨Same.refl _, hS.trans f, f, fun _ e _ => e⟩
theorem same_upd {H1 : Hp} {a : Addr} {v : HO} (f : Same Hb H1) (n : Hb a = none) : Same Hb (upd H1 a v) := fun x u e => by
  rw [upd_ne (ne_of_none e n)]; exact f _ _ e
def rRawL (l : Addr) (vs : List V) : Rl := ⟨fun S v => v = .ref l ∧ S l = some (.lst vs), fun e h => ⟨h.1, e _ _ h.2⟩⟩
def rRawT (p : Addr) (vs : List V) : Rl := ⟨fun S v => v = .ref p ∧ S p = some (.tup vs), fun e h => ⟨h.1, e _ _ h.2⟩⟩
theorem opd_rawL {j : Nat} {y : V} {r : Rl} (h : vs[j]? = some y) (hr : ∀ S', Same S S' → r.p S' y) : OpD (rIxL X.K) (rRawL l vs) (dt (j : Int)) r S := fun S1 H1 v w c d hv hw Q q => by
  obtain ⟨rfl, hv⟩ := hv
  exact ⟨l, vs, (j : Int), y, rfl, hw, SqL.of (d _ _ hv), atI_nat h, q _ S1 H1 (Fp.refl d) (hr S1 c)⟩
theorem opd_rawT {j : Nat} {y : V} {r : Rl} (h : vs[j]? = some y) (hr : ∀ S', Same S S' → r.p S' y) : OpD (rIxT X.K) (rRawT pp vs) (dt (j : Int)) r S := fun S1 H1 v w c d hv hw Q q => by
  obtain ⟨rfl, hv⟩ := hv
  exact ⟨pp, vs, (j : Int), y, rfl, hw, SqT.of (d _ _ hv), atI_nat h, q _ S1 H1 (Fp.refl d) (hr S1 c)⟩
/-- x[0][1].append(e) -/
theorem ws_spoil1 {rest : List V} {r : Rl} {j0 j1} {p0 p1 q0 q1 : Pos} (hl : S' l = some (.lst (.ref pp :: rest))) (hp : S' pp = some (.tup [w, .ref q, u])) (hq : S' q = some (.lst us)) (hus : us.length < 5000) (hlq : l ≠ q) (hpq : pp ≠ q)
    (hS : Same S' H') (hb : Hb q = none) (hH : Same Hb H') (ho : ∀ S1, GE X o σ S1 (rVal (.ref l))) (g : ∀ S1, GE X e σ S1 r)
    (k : ∀ H3, Same Hb H3 → H3 l = some (.lst (.ref pp :: rest)) → D.nx σ H3)
    (hs0 : PlainIx (.Constant (.int 0) j0 p0) := by exact fun _ _ => rfl) (hs1 : PlainIx (.Constant (.int 1) j1 p1) := by exact fun _ _ => rfl)
    (hbase : attributeBase (.Subscript (.Subscript o (.Constant (.int 0) j0 p0) q0) (.Constant (.int 1) j1 p1) q1) "append" X.env (eval (.Subscript (.Subscript o (.Constant (.int 0) j0 p0) q0) (.Constant (.int 1) j1 p1) q1) X.env) = eval (.Subscript (.Subscript o (.Constant (.int 0) j0 p0) q0) (.Constant (.int 1) j1 p1) q1) X.env := by rfl)
    (hfew : ((backTo cp (starEach [e] X.env)).all (fun x => !x.1) && (backToKw cp (keywordEach [] X.env)).all (fun x => x.1.isSome)
      && decide ([e].length + ([] : List Keyword).length + (if ([] : List Keyword).isEmpty then 0 else 1) < 30)) = true := by rfl)
    (hline : (ap.endLine == cp.line) = true := by rfl) (hs : starEach [e] X.env = (false, eval e X.env) :: starEach [] X.env := by rfl) (hplain : (backTo cp (starEach [] X.env)).any (·.1) = false := by rfl)
    (hsw : swapsWith (.Call (.Attribute (.Subscript (.Subscript o (.Constant (.int 0) j0 p0) q0) (.Constant (.int 1) j1 p1) q1) "append" ap) [e] [] cp) none pos.line X.env = pure false := by rfl) : wS X (.Expr (.Call (.Attribute (.Subscript (.Subscript o (.Constant (.int 0) j0 p0) q0) (.Constant (.int 1) j1 p1) q1) "append" ap) [e] [] cp) pos) D σ H' := by
  have s1 : Same (del q S') S' := fun x v e => by
    unfold del at e
    by_cases c : x = q
    · rw [if_pos c] at e; cases e
    · rw [if_neg c] at e; exact e
  have dl : del q S' l = some (.lst (.ref pp :: rest)) := by unfold del; rw [if_neg hlq]; exact hl
  have dp : del q S' pp = some (.tup [w, .ref q, u]) := by unfold del; rw [if_neg hpq]; exact hp
  have nq : del q S' q = none := by unfold del; rw [if_pos rfl]
  have g1 : GE X o σ (del q S') (rRawL l (.ref pp :: rest)) := fun S1 H1 c d Q qq => ho (del q S') S1 H1 c d Q fun v S2 H2 f hv => qq v S2 H2 f ⟨hv, f.ss _ _ (c _ _ dl)⟩
  have g2 : GE X (.Subscript o (.Constant (.int 0) j0 p0) q0) σ (del q S') (rRawT pp [w, .ref q, u]) := ge_of (pe_ix ix_list wE.pe wE.pe hs0) (go_op g1 (ge_int (i := ((0 : Nat) : Int))) (opd_rawL (j := 0) rfl fun S2 c => ⟨rfl, c _ _ dp⟩))
  have g3 : GE X (.Subscript (.Subscript o (.Constant (.int 0) j0 p0) q0) (.Constant (.int 1) j1 p1) q1) σ (del q S') (rRef q) := ge_of (pe_ix ix_tup wE.pe wE.pe hs1) (go_op g2 (ge_int (i := ((1 : Nat) : Int))) (opd_rawT (j := 1) rfl fun S2 c => rfl))
  refine ws_app (hS _ _ hq) nq g3 (g _) (s1.trans hS) (Nat.lt_trans hus (by decide)) (fun v S2 H2 f2 n2 _ _ => ?_) hbase hfew hline hs hplain hsw
  refine k _ (same_upd (hH.trans f2.hh) hb) ?_
  rw [upd_ne hlq]
  exact f2.hh _ _ (hS _ _ hl)
/-- x.append(e), the list not among the data -/
theorem ws_spoil2 {r : Rl} {x : Str} (hS : Same Sb Hb) (hl0 : Hb l = none) (hH : Same Hb H) (hl : H l = some (.lst vs)) (hvs : vs.length < 5000) (ho : GE X o σ Sb (rRef l)) (g : GE X e σ Sb r) (k : ∀ H3, Same Hb H3 → D.nx σ H3)
    (hbase : attributeBase o "append" X.env (eval o X.env) = eval o X.env := by rfl)
    (hfew : ((backTo cp (starEach [e] X.env)).all (fun x => !x.1) && (backToKw cp (keywordEach [] X.env)).all (fun x => x.1.isSome)
      && decide ([e].length + ([] : List Keyword).length + (if ([] : List Keyword).isEmpty then 0 else 1) < 30)) = true := by rfl)
    (hline : (ap.endLine == cp.line) = true := by rfl) (hs : starEach [e] X.env = (false, eval e X.env) :: starEach [] X.env := by rfl) (hplain : (backTo cp (starEach [] X.env)).any (·.1) = false := by rfl)
    (hsw : swapsWith (.Call (.Attribute o "append" ap) [e] [] cp) none pos.line X.env = pure false := by rfl) : wS X (.Expr (.Call (.Attribute o "append" ap) [e] [] cp) pos) D σ H :=
  ws_app hl (same_none hS hl0) ho g (hS.trans hH) (Nat.lt_trans hvs (by decide)) (fun v S2 H2 f2 n2 _ _ => k _ (same_upd (hH.trans f2.hh) hl0)) hbase hfew hline hs hplain hsw
end
end Cp
namespace Cp
open PySem PySem.Spec PyProof.Rows L2
section
variable {P : Program} {w : World} {K : PySem.W.Frag} {mg : Str → Option Value} {base : Heap}
/-! the script: a list of numbers that stays -/
theorem sqL_same {K : PySem.W.Frag} {H H' : Hp} {a : Addr} {xs : List V} (e : Same H H') (h : SqL K H a xs) : SqL K H' a xs := by
  rcases h with (r | ⟨o, r⟩) | r
  · exact .inl (.inl (e _ _ r))
  · exact .inl (.inr ⟨o, e _ _ r⟩)
  · exact .inr r
def rScr (K : PySem.W.Frag) (ns : List Int) : Rl := ⟨fun S v => ∃ a, v = .ref a ∧ SqL K S a (ns.map V.int), fun e h => by obtain ⟨a, rfl, h⟩ := h; exact ⟨a, rfl, sqL_same e h⟩⟩
def cutI (ns : List Int) (i : Int) : List Int := (ns.drop i.toNat).take 1
theorem cut_i (ns : List Int) {i : Int} (h : 0 ≤ i) : cutV (ns.map V.int) (some i) (some (i + 1)) = (cutI ns i).map V.int := by
  have e1 : i = (i.toNat : Int) := (Int.toNat_of_nonneg h).symm
  have e2 : i + 1 = ((i.toNat + 1 : Nat) : Int) := by omega
  unfold cutV cutI
  rw [e2]
  generalize hn : i.toNat = n at e1
  subst e1
  rw [HT.sIx_nat, HT.sIx_nat, List.length_map, List.map_take, List.map_drop]
  by_cases c : n < ns.length
  · rw [Nat.min_eq_left (by omega), Nat.min_eq_left (by omega), show n + 1 - n = 1 by omega]
  · rw [Nat.min_eq_right (by omega), Nat.min_eq_right (by omega), Nat.sub_self, List.take_zero]
    rw [List.drop_of_length_le (by rw [List.length_map]; omega), List.take_nil]
theorem reps_of_ints {S : Hp} : ∀ ns : List Int, Reps S (ns.map V.int) ns
  | [] => .nil
  | _ :: ns => .cons rfl (reps_of_ints ns)
section
variable {X : Cx} {σ : L2.St} {S : Hp} {a b c : Expr} {pos p2 : Pos} {ns : List Int} {i : Int}
theorem ge_cutI (ha : GE X a σ S (rScr X.K ns)) (hb : GE X b σ S (dt i)) (hc : GE X c σ S (dt (i + 1))) (h0 : 0 ≤ i) : GE X (.Subscript a (.Slice (some b) (some c) none p2) pos) σ S (dt (cutI ns i)) :=
  ge_of (pe_slice sl_list wE.pe (po_some wE.pe) (po_some wE.pe)) fun S1 H1 d1 d Q q => ha S1 H1 d1 d _ fun v S2 H2 f hv => hb S2 H2 (d1.trans f.ss) f.sh _ fun w S3 H3 f3 hw => ⟨_, hw, hc S3 H3 ((d1.trans f.ss).trans f3.ss) f3.sh _ fun u S4 H4 f4 hu => by
    obtain ⟨p, rfl, hp⟩ := hv
    refine ⟨_, hu, p, _, rfl, sqL_same ((f3.trans f4).ss.trans f4.sh) hp, fun l hn => ?_⟩
    have n := Fp.new (o := .lst (cutV (ns.map V.int) (some i) (some (i + 1)))) f4.sh hn
    refine q _ _ _ (((f.trans f3).trans f4).trans n) ⟨l, _, rfl, upd_same, ?_, ?_⟩
    · unfold cutI
      exact Nat.le_trans (by rw [List.length_take]; exact Nat.min_le_left _ _) (by decide)
    · rw [cut_i ns h0]
      exact reps_of_ints _⟩
theorem ge_lenScr {p : Pos} (hm : X.mg "len" = none) (h : GE X a σ S (rScr X.K ns)) (hg : Gl X "len" := by rfl) (hs : starEach [a] X.env = (false, eval a X.env) :: starEach [] X.env := by rfl) (hpl : (backTo pos (starEach [] X.env)).any (·.1) = false := by rfl) :
    GE X (.Call (.Name "len" p) [a] [] pos) σ S (dt (ns.length : Int)) :=
  ge_of (pe_callB call_len_seq hg hm boot_len (pa_cons wE.pe pa_nil hs) (by decide) (by decide) hs hpl) (go_cb (ga_cons h ga_nil) fun S1 H1 vs _ d hv Q q => by
    obtain ⟨v, _, rfl, ⟨p, rfl, hp⟩, rfl⟩ := hv
    exact ⟨p, _, rfl, .inl (sqL_same d hp), q _ S1 H1 (Fp.refl d) (by rw [List.length_map]; rfl)⟩)
end
def l_purse (ns : List Int) (at_ : Int) : List Int := [Int.fmod (if (0 : Int) > (cutI ns at_).sum - 10 ^ 18 then 0 else (cutI ns at_).sum - 10 ^ 18) ((10 ^ 60) ^ 8), Int.fmod (cutI ns at_).sum 2147483629, 0, at_]
def purseOk (l : List Int) : Prop := ∃ a b d : Int, l = [a, b, 0, d] ∧ 0 ≤ a ∧ 0 ≤ b ∧ b < 2147483629 ∧ 0 ≤ d ∧ d ≤ 10
theorem purse_ok (ns : List Int) {i : Int} (h : 0 ≤ i) (h2 : i ≤ 10) : purseOk (l_purse ns i) :=
  ⟨_, _, _, rfl, Int.fmod_nonneg_of_pos _ (by decide), Int.fmod_nonneg_of_pos _ (by decide), Int.fmod_lt_of_pos _ (by decide), h, h2⟩
abbrev n_s_law_purse : List Str := ["_law_script", "_law_at", "_law_seed"]
theorem sc_law_purse : FnScope n_s_law_purse ["_law_script", "_law_at"] (defScope s_law_purse) := ⟨rfl, rfl, rfl, by decide +kernel, rfl, by decide +kernel, by decide +kernel⟩
abbrev P_law_purse (K : PySem.W.Frag) : Sp := Pr (List Int × Int) (fun a => [rScr K a.1, dt a.2]) (fun a => dt (l_purse a.1 a.2)) (fun a => 0 ≤ a.2 ∧ a.2 ≤ 10)
theorem w_law_purse (T : Top K mg) : Has P w K mg base "_law_purse" ["_law_script", "_law_at"] 1 (P_law_purse K) := by
  obtain ⟨fd, F, g⟩ := T.fn 33 rfl rfl rfl
  refine has_of F g (F.bindsN fun _ _ _ _ _ _ us hl => match us, hl with | [_, _], _ => rfl) sc_law_purse (fun _ => rfl) ?_
  have nd := sc_law_purse.nd
  have b_sum := T.free 69
  have b_max := T.free 71
  intro cdv A0 outer s H E hr ⟨ns, i⟩ S vs D hS h hp q hn
  obtain ⟨v__law_script, _, rfl, h__law_script, v__law_at, _, rfl, h__law_at, rfl⟩ := h
  exact wss_cons (ws_set 2 (ge_sum b_sum (ge_cutI (ge_name 0 rfl h__law_script) (ge_name 1 rfl h__law_at) (ge_add (ge_name 1 rfl h__law_at) ge_int) hp.1)) hS (fun v1 S1 H1 f1 h1 => wss_one (ws_ret f1 (ge_lst (xs := l_purse ns i) (gA_cons (ge_mod (ge_max b_max (ge_sub (ge_name 2 rfl h1) (ge_powX ge_int ge_int ⟨by decide, by decide⟩)) ge_int) (ge_powX (ge_powX ge_int ge_int ⟨by decide, by decide⟩) ge_int ⟨by decide, by decide +kernel⟩) (by decide)) (gA_cons (ge_mod (ge_name 2 rfl h1) ge_int (by decide)) (gA_cons ge_int (gA_cons (ge_name 1 rfl (Rep.mono f1.ss h__law_at)) gA_nil)))) (by show 4 ≤ 4000; decide)) q)) nd)
def many3 (ns : List Int) : Int := if (if (ns.length : Int) < 3 then (ns.length : Int) else 3) > 1 then (if (ns.length : Int) < 3 then (ns.length : Int) else 3) else 1
theorem many3_bd (ns : List Int) : 1 ≤ many3 ns ∧ many3 ns ≤ 3 := by
  unfold many3
  by_cases h : (ns.length : Int) < 3
  · rw [if_pos h]
    by_cases h2 : (ns.length : Int) > 1
    · rw [if_pos h2]; omega
    · rw [if_neg h2]; omega
  · rw [if_neg h]; decide
def l_purses (ns : List Int) : List (List Int) := (upto (many3 ns).toNat).map fun i => l_purse ns i
theorem upto_bd {n : Nat} {y : Int} (h : y ∈ upto n) : 0 ≤ y ∧ y < n := by
  unfold upto at h
  obtain ⟨p, hp, rfl⟩ := List.mem_map.mp h
  have := List.mem_range.mp hp
  omega
abbrev n_s_law_purses : List Str := ["_law_script", "_law_few", "_law_at"]
theorem sc_law_purses : FnScope n_s_law_purses ["_law_script", "_law_few"] (defScope s_law_purses) := ⟨rfl, rfl, rfl, by decide +kernel, rfl, by decide +kernel, by decide +kernel⟩
abbrev P_law_purses (K : PySem.W.Frag) : Sp := Pr (List Int) (fun a => [rScr K a, dt (3 : Int)]) (fun a => dt (l_purses a)) (fun a => True)
theorem w_law_purses (T : Top K mg) (c_law_purse : Has P w K mg base "_law_purse" ["_law_script", "_law_at"] 1 (P_law_purse K)) : Has P w K mg base "_law_purses" ["_law_script", "_law_few"] 2 (P_law_purses K) := by
  obtain ⟨fd, F, g⟩ := T.fn 36 rfl rfl rfl
  refine has_of F g (F.bindsN fun _ _ _ _ _ _ us hl => match us, hl with | [_, _], _ => rfl) sc_law_purses (fun _ => rfl) ?_
  have nd := sc_law_purses.nd
  have b_range := T.free 68
  have b_max := T.free 71
  have b_min := T.free 72
  have b_len := T.free 61
  intro cdv A0 outer s H E hr ns S vs D hS h hp q hn
  obtain ⟨v__law_script, _, rfl, h__law_script, v__law_few, _, rfl, h__law_few, rfl⟩ := h
  have hm := many3_bd ns
  exact wss_one (ws_ret (Fp.refl hS) (ge_map n_s_law_purses (defScope s_law_purses) 2 (fun i => l_purse ns i) rfl nd (gi_range' (i := many3 ns) b_range (ge_max b_max ge_int (ge_min b_min (ge_name 1 rfl h__law_few) (ge_lenScr b_len (ge_name 0 rfl h__law_script)))) (by omega) (by show _ ≤ 4000; omega)) (by rw [upto_len]; show _ ≤ 4000; omega)
    (fun y v S9 hs9 hm9 hv9 _ _ _ _ _ => (ge_call (dt (l_purse ns y)) c_law_purse hr (ns, y) (gA_cons (ge_name 0 rfl ((rScr K ns).m hs9 h__law_script)) (gA_cons (ge_name 2 rfl hv9) gA_nil)) ⟨(upto_bd hm9).1, (by have h9 := (upto_bd hm9).2; show y ≤ 10; omega)⟩))) q)
theorem reps_inv {α : Type} [Rep α] {S : Hp} {vs : List V} {xs : List α} (r : Reps S vs xs) (h : xs ≠ []) : ∃ v vs' x xs', vs = v :: vs' ∧ xs = x :: xs' ∧ Rep.rep S v x ∧ Reps S vs' xs' := by
  cases r with
  | nil => exact absurd rfl h
  | cons a b => exact ⟨_, _, _, _, rfl, rfl, a, b⟩
theorem no_ref_str {S : Hp} {a : Addr} {vs : List V} {xs : List Str} (r : Reps S (.ref a :: vs) xs) : False := by
  cases r with
  | cons z _ => exact nomatch z.1
/-- what plain Lean has to say of the mirrors -/
structure MathOK : Prop where
  wpre : ∀ names R, OkN names → okRows names R → WPre names R
  told : ∀ names R, OkN names → okRows names R → m_told names R = l_own_lines names R
  keeps : ∀ names B O, OkN names → okRows names B → okRows names O → m_keeps (m_told names B) O = l_is_alike names B O
  same : ∀ names B O, OkN names → okRows names B → okRows names O → decide (m_told names O = m_told names B) = l_is_alike names B O
  refl : ∀ names B, OkN names → okRows names B → l_is_alike names B B = true
  rev : ∀ names B, OkN names → okRows names B → l_is_alike names B B.reverse = true
  opre : ∀ names B, OkN names → okRows names B → B.length ≤ 5 → OPre names B
  okbr : ∀ names B O, OkN names → okRows names B → okRows names O → ∀ ln ∈ m_told names B, okBr ln O
  dupl : ∀ names B, OkN names → okRows names B → dd (srt (l_own_lines names B).reverse) = l_own_lines names B
  line : ∀ names B, OkN names → okRows names B → ∀ ln ∈ l_own_lines names B, m_is_line ln names = true
  some : ∀ names B, OkN names → okRows names B → m_told names B ≠ []
  ent : ∀ names ps, OkN names → ps.Perm names → m_are_entries ps = true
  rows : ∀ names ps R, OkN names → ps.Perm names → okRows names R → m_are_rows R ps = true
  one : m_told ["a", "b"] [["a", "b"]] = [⟨"call", ["a", "b"], "a"⟩, ⟨"call", ["b"], "b"⟩, ⟨"off", ["a"], "b"⟩]
  two : m_told ["a"] [["a"], ["a"]] = [⟨"call", ["a"], "a"⟩]
abbrev n_s_law_right : List Str := ["_law_purse_here", "_law_names_here", "_law_base", "_law_panel", "_law_lines", "_law_turn", "_law_told", "_law_due", "_law_others", "_law_near", "_law_alike", "_law_row"]
theorem sc_law_right : FnScope n_s_law_right ["_law_purse_here"] (defScope s_law_right) := ⟨rfl, rfl, rfl, by decide +kernel, rfl, by decide +kernel, by decide +kernel⟩
abbrev P_law_right (K : PySem.W.Frag) : Sp := PrM Unit (fun _ => []) (fun _ => dt true) (fun _ => True) 700
theorem all_in {names : List Str} {R : List (List Str)} (h : okRows names R) : ∀ n ∈ names, ∀ row ∈ R, n ∈ row := fun n hn row hr => (h.2.2 row hr).mem_iff.mpr hn
theorem w_law_right (M : MathOK) (T : Top K mg) (c_law_some_names : Has P w K mg base "_law_some_names" ["_law_purse_here", "_law_most"] 5 (P_law_some_names K)) (c_law_rows_of : Has P w K mg base "_law_rows_of" ["_law_purse_here", "_law_names_here", "_law_many"] 4 (P_law_rows_of K)) (c_law_draw : Has P w K mg base "_law_draw" ["_law_purse_here", "_law_many"] 2 (P_law_draw K)) (c_law_shuffledS : Has P w K mg base "_law_shuffled" ["_law_purse_here", "_law_some"] 3 (P_law_shuffled Str K)) (c_Panel : HasC P w K mg base "Panel" (cP K) ["self", "entries", "rows"] 5 (P_Panel_init K)) (c_book_of : Has P w K mg base "book_of" ["panel"] 10 (P_book_of K)) (c_law_own_lines : Has P w K mg base "_law_own_lines" ["_law_names_here", "_law_rows"] 5 P_law_own_lines) (c_Book_lines : HasM P w K mg base (cB K) "lines" ["self"] 2 (P_Book_lines K)) (c_Book_lines2 : HasM P w K mg base (cB K) "lines" ["self"] 2 (sp_lines K)) (c_Book_entries : HasM P w K mg base (cB K) "entries" ["self"] 1 (P_Book_entries K)) (c_Book_eq : HasM P w K mg base (cB K) "__eq__" ["self", "other"] 1 (P_Book_eq K)) (c_Book : HasC P w K mg base "Book" (cB K) ["self", "entries", "lines"] 7 (P_Book_init K)) (c_law_other_rows : Has P w K mg base "_law_other_rows" ["_law_purse_here", "_law_names_here", "_law_base"] 6 (P_law_other_rows K)) (c_law_is_alike : Has P w K mg base "_law_is_alike" ["_law_names_here", "_law_rows", "_law_others"] 5 P_law_is_alike) (c_keeps : Has P w K mg base "keeps" ["book", "panel"] 4 (P_keeps K)) (c_Panel_rows : HasM P w K mg base (cP K) "rows" ["self"] 1 (P_Panel_rows K)) : Has P w K mg base "_law_right" ["_law_purse_here"] 12 (P_law_right K) := by
  obtain ⟨fd, F, g⟩ := T.fn 57 rfl rfl rfl
  refine has_ofM F g (F.bindsN fun _ _ _ _ _ _ us hl => match us, hl with | [_], _ => rfl) sc_law_right (fun _ => rfl) ?_
  have nd := sc_law_right.nd
  have b_range := T.free 68
  have b_list := T.free 63
  have b_str := T.free 73
  intro cdv A0 outer s H E hr _ S PP m us D hS pu h hp q
  have h : us = [] := h
  subst h
  refine wss_cons (ws_setM (k' := m + 679) 1 (gm_call (rEx fun names : List Str => OkN names) c_law_some_names hr (ge_name 0 rfl rfl) (gM_cons (gm ge_int) gM_nil) (fun S vs h => ⟨(), h, trivial, fun _ _ h => h⟩)) hS pu (fun vn S1 H1 f1 pu1 hn1 => ?_) nd)
  obtain ⟨names, hN, hn⟩ := hn1
  refine wss_cons (ws_setM (k' := m + 598) 2 (gm_call (rEx fun R : List (List Str) => okRows names R ∧ R.length ≤ 5) c_law_rows_of hr (ge_name 0 rfl rfl) (gM_cons (gm (ge_name (r := dt names) 1 rfl hn)) (gM_cons (gm_addI (p := fun i : Int => 1 ≤ i ∧ i ≤ 4) (p1 := fun i => i = 1) (p2 := fun i => 0 ≤ i ∧ i < 4) (gm (ge_rex ge_int rfl)) (gm_call (drawn 4) c_law_draw hr (ge_name 0 rfl rfl) (gM_cons (gm ge_int) gM_nil) (fun S vs h => ⟨4, h, ⟨by decide, by decide⟩, fun _ _ h => h⟩)) (fun i j hi hj => ⟨by omega, by omega⟩)) gM_nil)) (fun S vs h => by
      obtain ⟨v, w, rfl, h1, i, hi, h2⟩ := all2_two h
      refine ⟨(names, i), ⟨v, _, rfl, h1, w, _, rfl, h2, rfl⟩, ⟨hN, hi.1, (show i ≤ 5 by omega)⟩, fun S' v' h => ?_⟩
      obtain ⟨rows, ⟨hl, hpp⟩, h⟩ := h
      have hl : rows.length = i.toNat := hl
      exact ⟨rows, ⟨⟨by omega, by omega, hpp⟩, by omega⟩, h⟩)) f1.sh pu1 (fun vb S2 H2 f2 pu2 hb2 => ?_) nd)
  obtain ⟨B, ⟨hB, hB5⟩, hb⟩ := hb2
  have hn2 : Rep.rep S2 vn names := Rep.mono f2.ss hn
  have hso : srt names = names := hN.so
  have hBr : okRows names B.reverse := ⟨by rw [List.length_reverse]; exact hB.1, by rw [List.length_reverse]; exact hB.2.1, fun r hr2 => hB.2.2 r (List.mem_reverse.mp hr2)⟩
  refine wss_cons (ws_setM (k' := m + 588) 3 (gm_make (pan K names B) c_Panel hr (gM_cons (gm_call (k' := m + 588) (rEx fun ys : List Str => ys.Perm names) c_law_shuffledS hr (ge_name 0 rfl rfl) (gM_cons (gm (ge_name 1 rfl hn2)) gM_nil) (fun S vs h => ⟨names, h, Nat.le_trans hN.hi (by decide), fun _ _ h => h⟩)) (gM_cons (gm (show GE _ _ _ _ (dt (List.map (fun (y : List Str) => y) B)) from (ge_map n_s_law_right (defScope s_law_right) 11 (fun (y59 : List Str) => y59) rfl nd (gi_list (ge_name 2 rfl hb)) (rep_small hb) (fun y59 v59 S59 hs59 hm59 hv59 _ _ _ _ _ => (ge_list b_list (ge_name 11 rfl hv59)))))) gM_nil)) (fun S vs h => by
      obtain ⟨v, w, rfl, ⟨ys, hy, h1⟩, h2⟩ := all2_two h
      rw [List.map_id'] at h2
      refine ⟨(ys, B), ⟨v, _, rfl, h1, w, _, rfl, h2, rfl⟩, ⟨M.ent _ _ hN hy, M.rows _ _ _ hN hy hB, fun z => by have h9 := hB.1; rw [show B = [] from z] at h9; cases h9⟩, fun S' v' h => ?_⟩
      have e : srt ys = names := (srt_eq hy).trans hso
      have h : (pan K (srt ys) B).p S' v' := h
      rw [e] at h
      exact h)) f2.sh pu2 (fun vp S3 H3 f3 pu3 hp3 => ?_) nd)
  have hn3 := Rep.mono f3.ss hn2
  have hb3 := Rep.mono f3.ss hb
  have hpre : ∀ R, okRows names R → names.length ≤ 4 ∧ R.length ≤ 20 ∧ ∀ n ∈ names, ∀ row ∈ R, n ∈ row := fun R h => ⟨hN.hi, Nat.le_trans h.2.1 (by decide), all_in h⟩
  refine wss_cons (ws_par 6 7 rfl nd (gA_cons (ge_call (bok K (srt names) (m_told names B)) c_book_of hr (names, B) (gA_cons (ge_name 3 rfl hp3) gA_nil) (M.wpre _ _ hN hB)) (gA_cons (ge_call (dt (l_own_lines names B)) c_law_own_lines hr (names, B) (gA_cons (ge_name 1 rfl hn3) (gA_cons (ge_name 2 rfl hb3) gA_nil)) (hpre B hB)) gA_nil)) f3.sh (fun vt vd S4 H4 f4 ht4 hd4 => ?_))
  have F4 := ((f1.trans f2).trans f3).tp f4
  have pu4 := pu3.go f4
  have hn4 := Rep.mono f4.ss hn3
  have eT := M.told names B hN hB
  refine wss_cons (ws_if (gt_w (gw_or (gt_ne hr (ge_meth0 (dt (m_told names B)) c_Book_lines T.clsB hr (srt names, m_told names B) (ge_name 6 rfl ht4) rfl trivial no_fldB) (ge_name 7 rfl hd4)) fun _ => (gw_or (gt_ne hr (ge_meth0 (dt (srt names)) c_Book_entries T.clsB hr (srt names, m_told names B) (ge_name 6 rfl ht4) rfl trivial no_fldB) (ge_name 1 rfl hn4)) fun _ => (gw_or1 (gt_neBk T c_Book_eq hr (ge_name 6 rfl ht4) (ge_make (bok K (srt names) (dd (srt (l_own_lines names B).reverse))) c_Book hr (names, (l_own_lines names B).reverse) (gA_cons (ge_name 1 rfl hn4) (gA_cons (ge_rev (ge_name 7 rfl hd4)) gA_nil)) ⟨M.ent _ _ hN (List.Perm.refl _), fun ln hl => M.line _ _ hN hB ln (List.mem_reverse.mp hl)⟩)))))) f4.sh (fun hk S5 H5 f5 => absurd hk (by rw [M.dupl names B hN hB, eT, hso]; simp)) (fun hk S5 H5 f5 => wss_nil ?_))
  have hne := M.some names B hN hB
  refine wss_cons (ws_lines 4 T c_Book_lines2 hr (ge_name 6 rfl ((bok K (srt names) (m_told names B)).m f5.ss ht4)) f5.sh (fun vl S6 H6 f6 hl6 fr6 => ?_) nd)
  obtain ⟨l, vs, rfl, hl0, hls, hfr⟩ := fr6
  obtain ⟨l', vs', e1, e2, e3, e4⟩ := hl6
  cases e1
  rw [hls] at e2
  cases e2
  obtain ⟨t0, rest, ln0, lns, rfl, e8, r0, rr⟩ := reps_inv e4 hne
  rw [e8] at e3
  obtain ⟨pp, w, qq, u, rfl, hpp, hq0⟩ := hfr _ List.mem_cons_self
  obtain ⟨p', v1, v2, v3, e5, e6, g1, g2, g3⟩ := r0
  cases e5
  rw [hpp] at e6
  cases e6
  obtain ⟨q', us, e7, hqs, hql, hqr⟩ := g2
  cases e7
  have hlq : l ≠ qq := by
    rintro rfl
    rw [hls] at hqs
    cases hqs
    exact no_ref_str hqr
  have hpq : pp ≠ qq := by
    rintro rfl
    rw [hpp] at hqs
    cases hqs
  have hvl : rest.length ≤ 4000 := by
    have h9 := rr.len
    have h8 : lns.length + 1 ≤ 4000 := by rw [← List.length_cons]; exact e3
    omega
  refine wss_cons (ws_spoil1 (Hb := H5) hls hpp hqs (by rw [hqr.len]; exact Nat.lt_of_le_of_lt hql (by decide)) hlq hpq f6.sh hq0 f6.hh (fun S1 => (ge_name 4 rfl rfl)) (fun S1 => ge_str (i := "more")) (fun H7 hH7 hl7 => ?_))
  refine wss_cons (ws_spoil2 (Sb := S5) (Hb := H5) (l := l) (vs := .ref pp :: rest) (x := "_law_lines") f5.sh hl0 hH7 hl7 (by rw [List.length_cons]; omega) (ge_name 4 rfl rfl) ge_none (fun H8 hH8 => ?_))
  have f8 : Fp S5 H5 S5 H8 := fp_old f5.sh hH8
  have F8 := (F4.tp f5).tp f8
  have pu8 := (pu4.go f5).go f8
  have hn8 := Rep.mono f5.ss hn4
  have hb8 := Rep.mono (f4.ss.trans f5.ss) hb3
  have ht8 : (bok K (srt names) (m_told names B)).p S5 vt := (bok K (srt names) (m_told names B)).m f5.ss ht4
  have hd8 := Rep.mono f5.ss hd4
  have hp8 : (pan K names B).p S5 vp := (pan K names B).m (f4.ss.trans f5.ss) hp3
  refine wss_cons (ws_forP (M := MP PP) (B := Option V × Option V × Option V) 5 (fun i => m + 588 - 100 * i) (fun b y => [some (.ref PP), some vn, some vb, some vp, some (.ref l), y, some vt, some vd, b.1, b.2.1, b.2.2, none]) (fun _ _ _ _ _ => True) (b0 := (none, none, none)) (y0 := none) PassesOwn.never rfl nd
    (gim (gi_range' (i := 5) b_range ge_int (by decide) (by decide))) F8 (fun a h => h) pu8 (Nat.le_refl _) (fun _ _ _ _ _ _ _ _ h => h) (fun _ _ _ _ _ => trivial) ?turn ?fin)
  case turn =>
    intro xs i x v b S9 S10 H10 hxs hx s9 s10 f10 pu10 _ hv
    subst hxs
    have hi : i < 5 := (List.getElem?_eq_some_iff.mp hx).1
    have ek : m + 588 - 100 * i = (m + 588 - 100 * (i + 1)) + 100 := by omega
    rw [ek] at pu10
    have s510 := s9.trans s10
    refine wss_cons (ws_setM (k' := m + 588 - 100 * (i + 1)) 8 (gm_call (rEx fun O : List (List Str) => okRows names O) c_law_other_rows hr (ge_name 0 rfl rfl) (gM_cons (gm (ge_name 1 rfl (Rep.mono s510 hn8))) (gM_cons (gm (ge_name 2 rfl (Rep.mono s510 hb8))) gM_nil)) (fun S vs h => ⟨(names, B), h, M.opre _ _ hN hB hB5, fun _ _ h => h⟩)) f10.sh pu10 (fun vo S11 H11 f11 pu11 ho => ?_) nd)
    obtain ⟨O, hO, ho⟩ := ho
    have s511 := s510.trans f11.ss
    refine wss_cons (ws_set 9 (ge_make (pan K (srt names) O) c_Panel hr (names, O) (gA_cons (ge_name 1 rfl (Rep.mono s511 hn8)) (gA_cons (ge_name 8 rfl ho) gA_nil)) ⟨M.ent _ _ hN (List.Perm.refl _), M.rows _ _ _ hN (List.Perm.refl _) hO, fun z => by have h9 := hO.1; rw [show O = [] from z] at h9; cases h9⟩) (f10.trans f11).sh (fun vq S12 H12 f12 hq => ?_) nd)
    have hq : (pan K names O).p S12 vq := by
      have e : pan K (srt names) O = pan K names O := by rw [hso]
      rw [← e]; exact hq
    have s512 := s511.trans f12.ss
    refine wss_cons (ws_set 10 (ge_call (dt (l_is_alike names B O)) c_law_is_alike hr (names, (B, O)) (gA_cons (ge_name 1 rfl (Rep.mono s512 hn8)) (gA_cons (ge_name 2 rfl (Rep.mono s512 hb8)) (gA_cons (ge_name 8 rfl (Rep.mono f12.ss ho)) gA_nil))) ⟨all_in hB, all_in hO⟩) f12.sh (fun va S13 H13 f13 ha => ?_) nd)
    have s513 := s512.trans f13.ss
    have hq13 : (pan K names O).p S13 vq := (pan K names O).m f13.ss hq
    have ht13 : (bok K (srt names) (m_told names B)).p S13 vt := (bok K (srt names) (m_told names B)).m s513 ht8
    have k13 := (f12.trans f13)
    refine wss_cons (ws_if (gt_w (gw_or (gt_ne hr (ge_strB b_str (ge_call (dt (m_keeps (m_told names B) O)) c_keeps hr ((srt names, m_told names B), (names, O)) (gA_cons (ge_name 6 rfl ht13) (gA_cons (ge_name 9 rfl hq13) gA_nil)) ⟨hso.symm, M.okbr _ _ _ hN hB hO⟩)) (ge_strB b_str (ge_name 10 rfl ha))) fun _ => (gw_or1 (gt_ne hr (ge_eqBk T c_Book_eq hr (ge_call (bok K (srt names) (m_told names O)) c_book_of hr (names, O) (gA_cons (ge_name 9 rfl hq13) gA_nil) (M.wpre _ _ hN hO)) (ge_name 6 rfl ht13)) (ge_name 10 rfl ha))))) f13.sh (fun hk S14 H14 f14 => absurd hk ?no1) (fun hk S14 H14 f14 => wss_nil ?_))
    case no1 =>
      have e1 := M.keeps names B O hN hB hO
      have e2 := M.same names B O hN hB hO
      have e3 : decide ((srt names, m_told names O) = (srt names, m_told names B)) = l_is_alike names B O := by
        rw [← e2]
        exact decide_eq_decide.mpr ⟨fun z => (Prod.mk.inj z).2, fun z => by rw [z]⟩
      rw [e1, e3]
      simp
    have s514 := s513.trans f14.ss
    refine wss_one (ws_if (gt_ne hr (ge_meth0 (dt (m_told names O)) c_Book_lines T.clsB hr (srt names, m_told names O) (ge_call (bok K (srt names) (m_told names O)) c_book_of hr (names, O) (gA_cons (ge_name 9 rfl ((pan K names O).m f14.ss hq13)) gA_nil) (M.wpre _ _ hN hO)) rfl trivial no_fldB) (ge_call (dt (l_own_lines names O)) c_law_own_lines hr (names, O) (gA_cons (ge_name 1 rfl (Rep.mono s514 hn8)) (gA_cons (ge_name 8 rfl (Rep.mono (f12.ss.trans (f13.ss.trans f14.ss)) ho)) gA_nil)) (hpre O hO))) f14.sh (fun hk S15 H15 f15 => absurd hk (by rw [M.told names O hN hO]; simp)) (fun hk S15 H15 f15 => wss_nil ⟨S15, (some vo, some vq, some va), some v, ((f11.ss.trans f12.ss).trans f13.ss).trans (f14.ss.trans f15.ss), ((((f10.trans f11).tp f12).tp f13).tp f14).tp f15, (((pu11.go f12).go f13).go f14).go f15, trivial, rfl⟩))
  case fin =>
    intro xs b y S9 S10 H10 hxs s9 s10 f10 pu10 _
    subst hxs
    have s510 := s9.trans s10
    have hp10 : (pan K names B).p S10 vp := (pan K names B).m s510 hp8
    have ht10 : (bok K (srt names) (m_told names B)).p S10 vt := (bok K (srt names) (m_told names B)).m s510 ht8
    have hb10 := Rep.mono s510 hb8
    have ePr : pan K (srt names) B.reverse = pan K names B.reverse := by rw [hso]
    refine wss_cons (ws_if (gt_w (gw_or (gt_neBk T c_Book_eq hr (ge_call (bok K (srt names) (m_told names B.reverse)) c_book_of hr (names, B.reverse) (gA_cons (Go.is (r2 := pan K names B.reverse) (ge_make (pan K (srt names) B.reverse) c_Panel hr (names, B.reverse) (gA_cons (ge_name 1 rfl (Rep.mono s510 hn8)) (gA_cons (ge_rev (ge_name 2 rfl hb10)) gA_nil)) ⟨M.ent _ _ hN (List.Perm.refl _), M.rows _ _ _ hN (List.Perm.refl _) hBr, fun z => by have h9 := hBr.1; rw [show B.reverse = [] from z] at h9; cases h9⟩) ePr) gA_nil) (M.wpre _ _ hN hBr)) (ge_name 6 rfl ht10)) fun _ => (gw_or1 (gt_ne hr (ge_meth0 (dt (m_told names B)) c_Book_lines T.clsB hr (srt names, m_told names B) (ge_call (bok K (srt names) (m_told names B)) c_book_of hr (names, B) (gA_cons (ge_name 3 rfl hp10) gA_nil) (M.wpre _ _ hN hB)) rfl trivial no_fldB) (ge_name 7 rfl (Rep.mono s510 hd8)))))) f10.sh (fun hk S11 H11 f11 => absurd hk ?no2) (fun hk S11 H11 f11 => wss_nil ?_))
    case no2 =>
      have e1 := M.same names B B.reverse hN hB hBr
      rw [M.rev names B hN hB] at e1
      have e2 : m_told names B.reverse = m_told names B := of_decide_eq_true e1
      rw [e2, eT]
      simp
    exact wss_one (ws_retM (f10.tp f11) (gm (show GE _ _ _ _ (dt true) from Go.is (ge_and (ge_eq hr (ge_meth0 (dt B) c_Panel_rows T.clsP hr (names, B) (ge_name 3 rfl ((pan K names B).m f11.ss hp10)) rfl trivial no_fldP) (ge_name 2 rfl (Rep.mono f11.ss hb10))) fun _ => (ge_one (ge_call (dt (m_keeps (m_told names B) B)) c_keeps hr ((srt names, m_told names B), (names, B)) (gA_cons (ge_name 6 rfl ((bok K (srt names) (m_told names B)).m f11.ss ht10)) (gA_cons (ge_name 3 rfl ((pan K names B).m f11.ss hp10)) gA_nil)) ⟨hso.symm, M.okbr _ _ _ hN hB hB⟩))) (by rw [M.keeps names B B hN hB hB, M.refl names B hN hB]; simp))) ((pu10.go f11).le (by show m ≤ m + 588 - 500; omega)) q)
end
end Cp
namespace Cp
open PySem PySem.Spec PyProof.Rows L2
section
variable {P : Program} {w : World} {K : PySem.W.Frag} {mg : Str → Option Value} {base : Heap}
def noH : Hp := fun _ => none
theorem same_noH {H : Hp} : Same noH H := fun _ _ e => nomatch e
section
variable {X : Cx} {σ : L2.St} {S H : Hp} {iter : Expr} {body : List Stmt} {pos tpos : Pos} {D : Ends}
theorem purse_start {S H : Hp} {v : V} {l : List Int} {k : Nat} (hS : Same S H) (h : Rep.rep S v l) (ok : purseOk l) (hk : k ≤ 100000) : ∃ p, v = .ref p ∧ Pu noH H p k := by
  obtain ⟨a, b, d, rfl, h1, h2, h3, h4, h5⟩ := ok
  obtain ⟨p, vs, rfl, hp, hl, hr⟩ := h
  have e := reps_ints hr
  subst e
  exact ⟨p, rfl, rfl, a, b, 0, d, hS _ _ hp, h1, h2, h3, Int.le_refl _, by omega, h4, h5⟩
/-- for p in a list of purses -/
theorem ws_forPs {x : Str} (j : Nat) {LL : List (List Int)} (τ : Option V → L2.St) {y0 : Option V} (hp : PassesOwn (model X.prog X.w) X.A X.env X.xe) (hc : X.calm = true) (hN : X.N.Nodup) (g : GE X iter σ S (dt LL)) (hS : Same S H) (hok : ∀ l ∈ LL, purseOk l) (hn : LL.length ≤ 100)
    (ht : ∀ p c H', Pu noH H' p (c + 700) → wSs X body { D with nx := fun σ4 H4 => (∃ y, σ4 = τ y) ∧ ∃ S4, Fm (MP p) noH H' S4 H4 ∧ Pu S4 H4 p c, ct := fun σ4 H4 => (∃ y, σ4 = τ y) ∧ ∃ S4, Fm (MP p) noH H' S4 H4 ∧ Pu S4 H4 p c, bk := D.nx } (τ (some (.ref p))) H')
    (hd : ∀ y H', D.nx (τ y) H') (eσ : σ = τ y0 := by rfl) (eτ : ∀ y v, (τ y).set j (some v) = τ (some v) := by intro _ _; rfl) (hx : X.N[j]? = some x := by rfl) (hl : Loc X.env.scope x := by first | exact Or.inl rfl | exact Or.inr rfl)
    (hf : X.fn x = true ∨ X.env.scope.names.lookup x = some .local := by first | exact .inl rfl | exact .inr rfl) (hfs : ∀ x, foldedSetIterable iter X.env x = pure x := by intro _; rfl) : wS X (.For (.Name x tpos) iter body [] pos) D σ H := by
  refine of_ps (ps_for hp hc (pi_list wE.pe) (pg_name hN hx hl hf) wSs.ps hfs) (g S H (Same.refl _) hS _ fun v S2 H2 f2 hv => ?_)
  obtain ⟨L, vs, rfl, hL, hll, hr⟩ := hv
  have hL2 : H2 L = some (.lst vs) := f2.sh _ _ hL
  have hvl : vs.length = LL.length := hr.len
  refine ⟨L, rfl, ⟨vs, SqL.of hL2⟩, fun i m σ H => m = vs.length - i ∧ i ≤ vs.length ∧ (∃ y, σ = τ y) ∧ H L = some (.lst vs) ∧ ∀ v ∈ vs, ∃ p, v = .ref p ∧ Pu noH H p ((vs.length - i) * 700), ⟨vs.length, rfl, Nat.zero_le _, ⟨y0, eσ⟩, hL2, fun v hv => ?_⟩, ?_⟩
  · obtain ⟨i, hi⟩ := List.mem_iff_getElem?.mp hv
    obtain ⟨l, h1, h2⟩ := hr.get hi
    exact purse_start f2.sh h2 (hok l (List.mem_of_getElem? h1)) (by omega)
  rintro i m σ' H' ⟨rfl, hi, ⟨y, rfl⟩, hLH, hps⟩
  by_cases hlt : i < vs.length
  · refine .inr ⟨⟨vs, vs[i], SqL.of hLH, List.getElem?_eq_getElem hlt⟩, fun σ4 H4 => (∃ y, σ4 = τ y) ∧ H4 L = some (.lst vs) ∧ ∀ v ∈ vs, ∃ p, v = .ref p ∧ Pu noH H4 p ((vs.length - (i + 1)) * 700), fun σ4 H4 q' => ⟨vs.length - (i + 1), by omega, rfl, hlt, q'⟩, fun v H'' yl => ?_⟩
    obtain ⟨rfl, yl⟩ := yl
    have hv : vs[i]? = some v := yl vs (SqL.of hLH)
    obtain ⟨p, rfl, pu⟩ := hps v (List.mem_of_getElem? hv)
    have hLp : L ≠ p := pu.ne hLH fun k z => by
      cases vs with
      | nil => simp at hv
      | cons w ws =>
        obtain ⟨p', e, _⟩ := hps w List.mem_cons_self
        rw [e] at z
        exact nomatch z
    have ek : (vs.length - i) * 700 = (vs.length - (i + 1)) * 700 + 700 := by omega
    rw [ek] at pu
    show wSs X body _ ((τ y).set j (some (.ref p))) H''
    rw [eτ]
    have k := ht p _ H'' pu
    have up : ∀ σ4 H4, ((∃ y, σ4 = τ y) ∧ ∃ S4, Fm (MP p) noH H'' S4 H4 ∧ Pu S4 H4 p ((vs.length - (i + 1)) * 700)) → (∃ y, σ4 = τ y) ∧ H4 L = some (.lst vs) ∧ ∀ v ∈ vs, ∃ p, v = .ref p ∧ Pu noH H4 p ((vs.length - (i + 1)) * 700) := fun σ4 H4 ⟨h1, S4, f4, p4⟩ => ⟨h1, f4.hh _ _ hLp hLH, fun v hv => by
      obtain ⟨q, rfl, pq⟩ := hps v hv
      refine ⟨q, rfl, ?_⟩
      by_cases c : q = p
      · subst c; exact p4.sub same_noH
      · obtain ⟨a, b, cc, d, h0, hrest⟩ := (pq.le (k' := (vs.length - (i + 1)) * 700) (by omega)).ex
        exact ⟨rfl, a, b, cc, d, f4.hh _ _ c h0, hrest⟩⟩
    refine wSs_mk fun pins s Iv => thn (wSs_run k pins s Iv) fun fl s' q => ?_
    cases fl with
    | next => obtain ⟨σ4, H4, I4, q⟩ := q; exact ⟨σ4, H4, I4, up _ _ q⟩
    | cont => obtain ⟨σ4, H4, I4, q⟩ := q; exact ⟨σ4, H4, I4, up _ _ q⟩
    | brk => exact q
    | ret u => exact q
  · have e : i = vs.length := by omega
    subst e
    exact .inl ⟨⟨vs, SqL.of hLH, Nat.le_refl _⟩, hd y H'⟩
end
theorem ab_ok : OkN ["a", "b"] := ⟨by decide +kernel, by decide +kernel, srt_of (by decide +kernel), by decide, by decide⟩
theorem a_ok : OkN ["a"] := ⟨by decide +kernel, by decide +kernel, srt_of (by decide +kernel), by decide, by decide⟩
theorem ab_rows : okRows ["a", "b"] [["a", "b"]] := ⟨by decide, by decide, fun r hr => by rw [List.mem_singleton.mp hr]⟩
theorem a_rows : okRows ["a"] [["a"], ["a"]] := ⟨by decide, by decide, fun r hr => by
  rcases List.mem_cons.mp hr with rfl | hr
  · exact List.Perm.refl _
  · rw [List.mem_singleton.mp hr]⟩
abbrev n_s_law : List Str := ["_law_script", "_law_purse_here", "_law_one"]
theorem sc_law : FnScope n_s_law ["_law_script"] (defScope s_law) := ⟨rfl, rfl, rfl, by decide +kernel, rfl, by decide +kernel, by decide +kernel⟩
def spLaw (K : PySem.W.Frag) : Sp := fun vs H Q _ => ∃ (a : Addr) (ns : List Int), vs = [.ref a] ∧ SqL K H a (ns.map V.int) ∧ ∀ H', Q (.bl true) H'
theorem ok_law (M : MathOK) (T : Top K mg) {f : Addr} {fd : FuncData} (F : FunD K "law" "law" (defArgs s_law) (defBody s_law) (defScope s_law) [] [] f fd) (c_law_purses : Has P w K mg base "_law_purses" ["_law_script", "_law_few"] 2 (P_law_purses K)) (c_law_right : Has P w K mg base "_law_right" ["_law_purse_here"] 12 (P_law_right K)) (c_Panel : HasC P w K mg base "Panel" (cP K) ["self", "entries", "rows"] 5 (P_Panel_init K)) (c_book_of : Has P w K mg base "book_of" ["panel"] 10 (P_book_of K)) (c_Book_lines : HasM P w K mg base (cB K) "lines" ["self"] 2 (P_Book_lines K)) : FnOk P w K mg base CX0 13 f fd ["_law_script"] (spLaw K) := by
  have nd := sc_law.nd
  refine F.ok (k := 12) sc_law (fun vs H Q E ⟨a, ns, e, _⟩ => by rw [e]; rfl) fun cdv A0 outer s H vs Q E hr ⟨a, ns, e, hsq, q⟩ => ?_
  subst e
  refine ⟨_, (wSs.ps (X := (cxOf CX0 P w K mg base n_s_law "law" (defScope s_law) f cdv A0 outer s H E).nox)).nox, ?_⟩
  have hS : Same H H := Same.refl _
  have h__law_script : (rScr K ns).p H (.ref a) := ⟨a, rfl, hsq⟩
  refine wss_cons (ws_forPs 1 (fun y => [some (.ref a), y, none]) PassesOwn.never rfl nd (ge_call (dt (l_purses ns)) c_law_purses hr ns (gA_cons (ge_name 0 rfl h__law_script) (gA_cons ge_int gA_nil)) trivial) hS (fun l hl => ?ok) ?len (fun p c H' pu => ?turn) (fun y H' => ?rest))
  case ok =>
    unfold l_purses at hl
    obtain ⟨i, hi, rfl⟩ := List.mem_map.mp hl
    have h1 := upto_bd hi
    have h2 := many3_bd ns
    exact purse_ok ns h1.1 (by omega)
  case len =>
    unfold l_purses
    rw [List.length_map, upto_len]
    have h2 := many3_bd ns
    omega
  case turn =>
    exact wss_one (ws_ifNotM (gm_call (k' := c) (dt true) c_law_right hr (ge_name (r := rRef p) 1 rfl rfl) gM_nil (fun S vs h => ⟨(), h, trivial, fun _ _ h => h⟩)) same_noH pu (fun S' H'' f pu2 => wss_nil ⟨⟨some (.ref p), rfl⟩, S', f, pu2⟩))
  case rest =>
    refine wss_cons (ws_set 2 (Go.is (r2 := pan K (["a", "b"] : List Str) ([["a", "b"]] : List (List Str))) (ge_make (pan K (srt (["a", "b"] : List Str)) ([["a", "b"]] : List (List Str))) c_Panel hr ((["a", "b"] : List Str), ([["a", "b"]] : List (List Str))) (gA_cons (ge_lst (xs := ([("a" : Str), ("b" : Str)] : List Str)) (gA_cons ge_str (gA_cons ge_str gA_nil))) (gA_cons (ge_lst (xs := ([([("a" : Str), ("b" : Str)] : List Str)] : List (List Str))) (gA_cons (ge_lst (xs := ([("a" : Str), ("b" : Str)] : List Str)) (gA_cons ge_str (gA_cons ge_str gA_nil))) gA_nil)) gA_nil)) ⟨M.ent _ _ ab_ok (List.Perm.refl _), M.rows _ _ _ ab_ok (List.Perm.refl _) ab_rows, (fun z => nomatch z)⟩) (by rw [ab_ok.so])) (same_noH (H := H')) (fun v1 S1 H1 f1 h1 => ?_) nd)
    refine wss_cons (ws_if (gt_ne hr (ge_meth0 (dt (m_told (["a", "b"] : List Str) ([["a", "b"]] : List (List Str)))) c_Book_lines T.clsB hr (srt (["a", "b"] : List Str), m_told (["a", "b"] : List Str) ([["a", "b"]] : List (List Str))) (ge_call (bok K (srt (["a", "b"] : List Str)) (m_told (["a", "b"] : List Str) ([["a", "b"]] : List (List Str)))) c_book_of hr ((["a", "b"] : List Str), ([["a", "b"]] : List (List Str))) (gA_cons (ge_name 2 rfl h1) gA_nil) (M.wpre _ _ ab_ok ab_rows)) rfl trivial no_fldB) (ge_lst (xs := ([(⟨("call" : Str), ([("a" : Str), ("b" : Str)] : List Str), ("a" : Str)⟩ : Ln), (⟨("call" : Str), ([("b" : Str)] : List Str), ("b" : Str)⟩ : Ln), (⟨("off" : Str), ([("a" : Str)] : List Str), ("b" : Str)⟩ : Ln)] : List Ln)) (gA_cons (ge_ln (gA_cons ge_str (gA_cons (ge_lst (xs := ([("a" : Str), ("b" : Str)] : List Str)) (gA_cons ge_str (gA_cons ge_str gA_nil))) (gA_cons ge_str gA_nil)))) (gA_cons (ge_ln (gA_cons ge_str (gA_cons (ge_lst (xs := ([("b" : Str)] : List Str)) (gA_cons ge_str gA_nil)) (gA_cons ge_str gA_nil)))) (gA_cons (ge_ln (gA_cons ge_str (gA_cons (ge_lst (xs := ([("a" : Str)] : List Str)) (gA_cons ge_str gA_nil)) (gA_cons ge_str gA_nil)))) gA_nil))))) f1.sh (fun hk S2 H2 f2 => absurd hk (by rw [M.one]; simp)) (fun hk S2 H2 f2 => wss_nil ?_))
    exact wss_one (of_ps (ps_ret wE.pe) (go_now (ge_eq hr (ge_meth0 (dt (m_told (["a"] : List Str) ([["a"], ["a"]] : List (List Str)))) c_Book_lines T.clsB hr (srt (["a"] : List Str), m_told (["a"] : List Str) ([["a"], ["a"]] : List (List Str))) (ge_call (bok K (srt (["a"] : List Str)) (m_told (["a"] : List Str) ([["a"], ["a"]] : List (List Str)))) c_book_of hr ((["a"] : List Str), ([["a"], ["a"]] : List (List Str))) (gA_cons (Go.is (r2 := pan K (["a"] : List Str) ([["a"], ["a"]] : List (List Str))) (ge_make (pan K (srt (["a"] : List Str)) ([["a"], ["a"]] : List (List Str))) c_Panel hr ((["a"] : List Str), ([["a"], ["a"]] : List (List Str))) (gA_cons (ge_lst (xs := ([("a" : Str)] : List Str)) (gA_cons ge_str gA_nil)) (gA_cons (ge_lst (xs := ([([("a" : Str)] : List Str), ([("a" : Str)] : List Str)] : List (List Str))) (gA_cons (ge_lst (xs := ([("a" : Str)] : List Str)) (gA_cons ge_str gA_nil)) (gA_cons (ge_lst (xs := ([("a" : Str)] : List Str)) (gA_cons ge_str gA_nil)) gA_nil))) gA_nil)) ⟨M.ent _ _ a_ok (List.Perm.refl _), M.rows _ _ _ a_ok (List.Perm.refl _) a_rows, (fun z => nomatch z)⟩) (by rw [a_ok.so])) gA_nil) (M.wpre _ _ a_ok a_rows)) rfl trivial no_fldB) (ge_lst (xs := ([(⟨("call" : Str), ([("a" : Str)] : List Str), ("a" : Str)⟩ : Ln)] : List Ln)) (gA_cons (ge_ln (gA_cons ge_str (gA_cons (ge_lst (xs := ([("a" : Str)] : List Str)) (gA_cons ge_str gA_nil)) (gA_cons ge_str gA_nil)))) gA_nil))) f2.sh (fun v S3 H3 f3 h3 => (show Q v H3 from by
      have h3 : v = .bl (decide (_ = _)) := h3
      rw [M.two] at h3
      rw [h3]
      simpa using q H3))))
end
end Cp
namespace Cp
open PySem PySem.Spec PyProof.Rows L2
/-! ### lists in order, without doubles -/
theorem ed_nodup {α : Type} [DecidableEq α] : ∀ (n : Nat) (xs : List α), xs.length ≤ n → xs.eraseDups.Nodup
  | 0, [], _ => by simp
  | n + 1, [], _ => by simp
  | n + 1, x :: xs, h => by
    rw [List.eraseDups_cons, List.nodup_cons]
    refine ⟨fun hm => ?_, ed_nodup n _ ?_⟩
    · have h1 := (List.mem_filter.mp (List.mem_eraseDups.mp hm)).2
      simp at h1
    · have h1 := List.length_filter_le (fun b => !b == x) xs
      rw [List.length_cons] at h
      omega
section
variable {α : Type} [DecidableEq α]
theorem ddf_mem (xs : List α) : ∀ (acc : List α) (y : α), y ∈ xs.foldl ddS acc ↔ y ∈ acc ∨ y ∈ xs := by
  induction xs with
  | nil => intro acc y; simp
  | cons x xs ih =>
    intro acc y
    rw [List.foldl_cons, ih]
    by_cases h : x ∈ acc
    · rw [ddS_yes h]
      constructor
      · rintro (z | z)
        · exact .inl z
        · exact .inr (List.mem_cons_of_mem _ z)
      · rintro (z | z)
        · exact .inl z
        · rcases List.mem_cons.mp z with rfl | z
          · exact .inl h
          · exact .inr z
    · rw [ddS_no h]
      simp only [List.mem_append, List.mem_cons, List.not_mem_nil, or_false]
      constructor
      · rintro ((z | z) | z)
        · exact .inl z
        · exact .inr (.inl z)
        · exact .inr (.inr z)
      · rintro (z | z | z)
        · exact .inl (.inl z)
        · exact .inl (.inr z)
        · exact .inr z
theorem dd_mem {xs : List α} {y : α} : y ∈ dd xs ↔ y ∈ xs := by
  unfold dd
  rw [ddf_mem]
  simp
theorem ddf_nodup (xs : List α) : ∀ acc : List α, acc.Nodup → (xs.foldl ddS acc).Nodup := by
  induction xs with
  | nil => intro acc h; exact h
  | cons x xs ih =>
    intro acc h
    rw [List.foldl_cons]
    refine ih _ ?_
    by_cases hx : x ∈ acc
    · rw [ddS_yes hx]; exact h
    · rw [ddS_no hx, List.nodup_append]
      exact ⟨h, by simp, fun a ha b hb e => by rw [List.mem_singleton.mp hb] at e; exact hx (e ▸ ha)⟩
theorem dd_nodup (xs : List α) : (dd xs).Nodup := ddf_nodup xs [] List.nodup_nil
theorem ddf_sub (xs : List α) : ∀ acc : List α, ∃ ys : List α, ys.Sublist xs ∧ xs.foldl ddS acc = acc ++ ys := by
  induction xs with
  | nil => intro acc; exact ⟨[], List.Sublist.refl _, by simp⟩
  | cons x xs ih =>
    intro acc
    rw [List.foldl_cons]
    by_cases hx : x ∈ acc
    · rw [ddS_yes hx]
      obtain ⟨ys, h1, h2⟩ := ih acc
      exact ⟨ys, h1.cons x, h2⟩
    · rw [ddS_no hx]
      obtain ⟨ys, h1, h2⟩ := ih (acc ++ [x])
      exact ⟨x :: ys, h1.cons₂ x, by rw [h2, List.append_assoc]; rfl⟩
theorem dd_sub (xs : List α) : (dd xs).Sublist xs := by
  obtain ⟨ys, h1, h2⟩ := ddf_sub xs []
  unfold dd
  rw [h2, List.nil_append]
  exact h1
theorem ddf_id (xs : List α) : ∀ acc : List α, (acc ++ xs).Nodup → xs.foldl ddS acc = acc ++ xs := by
  induction xs with
  | nil => intro acc _; simp
  | cons x xs ih =>
    intro acc h
    have hx : ¬ x ∈ acc := fun z => (List.nodup_append.mp h).2.2 x z x List.mem_cons_self rfl
    rw [List.foldl_cons, ddS_no hx, ih (acc ++ [x]) (by rw [List.append_assoc]; exact h), List.append_assoc]
    rfl
theorem dd_id {xs : List α} (h : xs.Nodup) : dd xs = xs := ddf_id xs [] (by rw [List.nil_append]; exact h)
end
section
variable {α : Type} [Rep α] [Srt α]
theorem uniq_sorted {xs ys : List α} (hx : xs.Pairwise fun a b => leD a b = true) (hy : ys.Pairwise fun a b => leD a b = true) (nx : xs.Nodup) (ny : ys.Nodup) (h : ∀ a, a ∈ xs ↔ a ∈ ys) : xs = ys :=
  List.Perm.eq_of_pairwise (fun a b _ _ h1 h2 => leD_anti (Srt.al a b) h1 h2) hx hy ((List.perm_ext_iff_of_nodup nx ny).mpr h)
end
theorem leD_tp (a b : List Str) : leD (⟨a⟩ : Tp Str) ⟨b⟩ = leD a b := by
  have e : ∀ c : List Str, PySem.W.keyToks (Rep.enc (⟨c⟩ : Tp Str)) = PySem.W.keyToks (Rep.enc c) := fun c => by
    show PySem.W.keyToks (.tuple (c.map Rep.enc)) = PySem.W.keyToks (.list (c.map Rep.enc))
    simp only [PySem.W.keyToks]
  show (!(PyProof.Rows.listOrd PyProof.Rows.itemOrd).blt (PySem.W.keyToks (Rep.enc (⟨b⟩ : Tp Str))) (PySem.W.keyToks (Rep.enc (⟨a⟩ : Tp Str)))) = (!(PyProof.Rows.listOrd PyProof.Rows.itemOrd).blt (PySem.W.keyToks (Rep.enc b)) (PySem.W.keyToks (Rep.enc a)))
  rw [e, e]
/-- what both ways of leaving doubles out give -/
theorem plain_eq (L : List (List Str)) : (sset (L.map fun (y : List Str) => Tp.mk y)).map (fun (y : Tp Str) => y.l) = dd (srt L) := by
  have hn : (sset (L.map fun (y : List Str) => Tp.mk y)).Nodup := (srt_perm _).nodup_iff.mpr (ed_nodup _ _ (Nat.le_refl _))
  refine uniq_sorted ?_ ((srt_pw L).sublist (dd_sub _)) ?_ (dd_nodup _) fun a => ?_
  · rw [List.pairwise_map]
    exact (srt_pw _).imp fun {a b} h => by rw [← leD_tp]; exact h
  · exact List.Pairwise.map _ (fun a b h e => h (by cases a; cases b; simp at e; rw [e])) hn
  · rw [dd_mem, srt_mem]
    constructor
    · intro h
      obtain ⟨y, hy, rfl⟩ := List.mem_map.mp h
      obtain ⟨z, hz, rfl⟩ := List.mem_map.mp (List.mem_eraseDups.mp (srt_mem.mp hy))
      exact hz
    · intro h
      exact List.mem_map.mpr ⟨⟨a⟩, srt_mem.mpr (List.mem_eraseDups.mpr (List.mem_map.mpr ⟨a, h, rfl⟩)), rfl⟩
/-! ### least lots -/
def sub (a b : List Str) : Prop := ∀ x ∈ a, x ∈ b
theorem part_iff (a b : List Str) : l_is_part a b = true ↔ sub a b := by
  unfold l_is_part
  rw [decide_eq_true_iff, List.filter_eq_nil_iff]
  constructor
  · intro h x hx
    have := h x hx
    simpa using this
  · intro h x hx
    simp [h x hx]
theorem least_eq (L : List (List Str)) : m_least_of L = l_least L := by
  unfold m_least_of l_least
  rw [plain_eq]
  rfl
theorem lots_eq (R : List (List Str)) (n : Str) : m_lots_in R n = l_lots R n := by
  unfold m_lots_in l_lots
  rw [least_eq]
theorem least_mem {L : List (List Str)} {z : List Str} : z ∈ l_least L ↔ z ∈ L ∧ ∀ w ∈ L, sub w z → w = z := by
  unfold l_least
  rw [List.mem_filter, dd_mem, srt_mem, decide_eq_true_iff, List.filter_eq_nil_iff]
  refine and_congr_right fun _ => ?_
  constructor
  · intro h w hw hs
    by_cases e : w = z
    · exact e
    · exact absurd (by simp [e, (part_iff w z).mpr hs]) (h w (dd_mem.mpr (srt_mem.mpr hw)))
  · intro h w hw hc
    have hw' := srt_mem.mp (dd_mem.mp hw)
    simp only [Bool.and_eq_true, Bool.not_eq_true', decide_eq_false_iff_not] at hc
    exact hc.1 (h w hw' ((part_iff w z).mp hc.2))
theorem least_nodup (L : List (List Str)) : (l_least L).Nodup := (dd_nodup _).sublist List.filter_sublist
theorem least_pw (L : List (List Str)) : (l_least L).Pairwise fun a b => leD a b = true := ((srt_pw L).sublist (dd_sub _)).sublist List.filter_sublist
/-! ### parts of names, in order -/
section
variable {names : List Str}
def can (names s : List Str) : Prop := s.Sublist names
theorem can_filter (p : Str → Bool) : can names (names.filter p) := List.filter_sublist
theorem can_sub {s : List Str} (h : can names s) : sub s names := fun x hx => h.subset hx
/-- a part is what it holds -/
theorem can_self (hn : names.Nodup) {s : List Str} (h : can names s) : s = names.filter fun (y : Str) => decide (y ∈ s) := by
  induction h with
  | slnil => rfl
  | @cons l₁ l₂ a h ih =>
    have hd := List.nodup_cons.mp hn
    rw [List.filter_cons]
    have : ¬ a ∈ l₁ := fun z => hd.1 (h.subset z)
    simp only [this, decide_false, Bool.false_eq_true, if_false]
    exact ih hd.2
  | @cons_cons l₁ l₂ a h ih =>
    have hd := List.nodup_cons.mp hn
    rw [List.filter_cons]
    simp only [List.mem_cons, true_or, decide_true, if_true]
    congr 1
    have e := ih hd.2
    rw [e]
    refine List.filter_congr fun x hx => ?_
    have hxa : ¬ x = a := fun z => hd.1 (z ▸ hx)
    rw [← e]
    simp [hxa]
theorem can_ext (hn : names.Nodup) {s t : List Str} (hs : can names s) (ht : can names t) (h : ∀ x, x ∈ s ↔ x ∈ t) : s = t := by
  rw [can_self hn hs, can_self hn ht]
  exact List.filter_congr fun x _ => by simp [h x]
theorem sub_anti (hn : names.Nodup) {s t : List Str} (hs : can names s) (ht : can names t) (h1 : sub s t) (h2 : sub t s) : s = t := can_ext hn hs ht fun x => ⟨h1 x, h2 x⟩
/-- a sorted text list without doubles among names is a part -/
theorem srt_can (hn : names.Nodup) (hso : srt names = names) {s : List Str} (hs : s.Nodup) (h : sub s names) : srt s = names.filter fun (y : Str) => decide (y ∈ s) := by
  refine uniq_sorted (srt_pw s) (((hso ▸ srt_pw names : names.Pairwise fun a b => leD a b = true)).sublist List.filter_sublist) ((srt_perm s).nodup_iff.mpr hs) (hn.sublist List.filter_sublist) fun a => ?_
  rw [srt_mem, List.mem_filter, decide_eq_true_iff]
  exact ⟨fun z => ⟨h a z, z⟩, fun z => z.2⟩
end
end Cp
namespace Cp
open PySem PySem.Spec PyProof.Rows L2
def preL (r : List Str) (n : Str) : List Str := srt (r.take (place r n))
theorem lots_def (R : List (List Str)) (n : Str) : l_lots R n = l_least (R.map fun r => preL r n) := rfl
theorem pre_mem {r : List Str} {n y : Str} : y ∈ preL r n ↔ y ∈ r.take (place r n) := srt_mem
theorem take_split {r : List Str} {n : Str} (h : n ∈ r) : r = r.take (place r n) ++ n :: r.drop (place r n + 1) := by
  obtain ⟨h1, _⟩ := place_at h
  obtain ⟨hlt, e⟩ := List.getElem?_eq_some_iff.mp h1
  conv => lhs; rw [← List.take_append_drop (place r n) r]
  rw [List.drop_eq_getElem_cons hlt, e]
theorem pre_no {r : List Str} {n : Str} (h : n ∈ r) : ¬ n ∈ r.take (place r n) := fun z => by
  obtain ⟨i, hi⟩ := List.mem_iff_getElem?.mp z
  rw [List.getElem?_take] at hi
  by_cases c : i < place r n
  · rw [if_pos c] at hi
    exact (place_at h).2 i n c hi rfl
  · rw [if_neg c] at hi; cases hi
/-- which of a field comes first -/
theorem met_iff {r : List Str} {n : Str} (h : n ∈ r) (q : Str → Bool) (hq : q n = true) : gat (r.filter q) 0 = n ↔ ∀ y ∈ r.take (place r n), q y = false := by
  have e : r.filter q = (r.take (place r n)).filter q ++ n :: (r.drop (place r n + 1)).filter q := by
    conv => lhs; rw [take_split h]
    rw [List.filter_append, List.filter_cons, if_pos hq]
  rw [e]
  constructor
  · intro hg y hy
    cases hqy : q y with
    | false => rfl
    | true =>
      have hm : y ∈ (r.take (place r n)).filter q := List.mem_filter.mpr ⟨hy, hqy⟩
      cases hf : (r.take (place r n)).filter q with
      | nil => rw [hf] at hm; cases hm
      | cons w ws =>
        rw [hf] at hg
        have hw : w = n := hg
        have hwm : w ∈ (r.take (place r n)).filter q := by rw [hf]; exact List.mem_cons_self
        exact absurd (hw ▸ (List.mem_filter.mp hwm).1) (pre_no h)
  · intro hy
    have e2 : (r.take (place r n)).filter q = [] := List.filter_eq_nil_iff.mpr fun y h2 => by rw [hy y h2]; exact Bool.false_ne_true
    rw [e2]; rfl
theorem keeps_iff {r f : List Str} {n : Str} (h : n ∈ r) : l_row_keeps r f n = true ↔ ∃ y ∈ f, y ∈ preL r n := by
  unfold l_row_keeps l_meets
  rw [Bool.not_eq_true', decide_eq_false_iff_not, met_iff h (fun y => decide (y ∈ f ++ ([n] : List Str))) (by simp)]
  constructor
  · intro hc
    refine Classical.byContradiction fun hz => hc fun y hy => ?_
    refine decide_eq_false fun hm => ?_
    rcases List.mem_append.mp hm with z | z
    · exact hz ⟨y, z, pre_mem.mpr hy⟩
    · rw [List.mem_singleton.mp z] at hy
      exact pre_no h hy
  · rintro ⟨y, hy, hp⟩ hc
    have := hc y (pre_mem.mp hp)
    simp [hy] at this
section
variable {names : List Str} {R O : List (List Str)} {n : Str}
theorem pre_can (H : OkN names) {r : List Str} (hr : r.Perm names) : can names (preL r n) := by
  unfold preL
  rw [srt_can H.nd H.so ((hr.nodup_iff.mpr H.nd).sublist (List.take_sublist _ _)) fun x hx => hr.mem_iff.mp (List.mem_of_mem_take hx)]
  exact can_filter _
theorem len_lt (hn : names.Nodup) {v w : List Str} (hv : can names v) (hw : can names w) (h : sub v w) (hne : v ≠ w) : v.length < w.length := by
  have e : v.Sublist w := by
    rw [can_self hn hv]
    have e2 : (names.filter fun (y : Str) => decide (y ∈ v)) = w.filter fun (y : Str) => decide (y ∈ v) := by
      conv => rhs; rw [can_self hn hw]
      rw [List.filter_filter]
      refine List.filter_congr fun x _ => ?_
      by_cases c : x ∈ v
      · simp [c, h x c]
      · simp [c]
    rw [e2]
    exact List.filter_sublist
  rcases Nat.lt_or_ge v.length w.length with z | z
  · exact z
  · exact absurd (e.eq_of_length_le z) hne
/-- below each there is a least -/
theorem least_below (hn : names.Nodup) {L : List (List Str)} (hc : ∀ z ∈ L, can names z) : ∀ (k : Nat) (w : List Str), w.length ≤ k → w ∈ L → ∃ z ∈ l_least L, sub z w := by
  intro k
  induction k with
  | zero =>
    intro w hk hw
    refine ⟨w, least_mem.mpr ⟨hw, fun v hv hs => ?_⟩, fun _ h => h⟩
    by_cases e : v = w
    · exact e
    · have := len_lt hn (hc v hv) (hc w hw) hs e
      omega
  | succ k ih =>
    intro w hk hw
    by_cases h : ∀ v ∈ L, sub v w → v = w
    · exact ⟨w, least_mem.mpr ⟨hw, h⟩, fun _ h => h⟩
    · have : ∃ v, v ∈ L ∧ sub v w ∧ v ≠ w := Classical.byContradiction fun z => h fun v hv hs => Classical.byContradiction fun e => z ⟨v, hv, hs, e⟩
      obtain ⟨v, hv, hs, hne⟩ := this
      have := len_lt hn (hc v hv) (hc w hw) hs hne
      obtain ⟨z, hz, hzs⟩ := ih v (by omega) hv
      exact ⟨z, hz, fun x hx => hs x (hzs x hx)⟩
theorem lots_can (H : OkN names) (hR : okRows names R) {z : List Str} (hz : z ∈ l_lots R n) : can names z := by
  rw [lots_def] at hz
  obtain ⟨r, hr, rfl⟩ := List.mem_map.mp (least_mem.mp hz).1
  exact pre_can H (hR.2.2 r hr)
theorem lots_pre {z : List Str} (hz : z ∈ l_lots R n) : ∃ r ∈ R, z = preL r n := by
  rw [lots_def] at hz
  obtain ⟨r, hr, e⟩ := List.mem_map.mp (least_mem.mp hz).1
  exact ⟨r, hr, e.symm⟩
theorem lots_below (H : OkN names) (hR : okRows names R) {r : List Str} (hr : r ∈ R) : ∃ z ∈ l_lots R n, sub z (preL r n) := by
  rw [lots_def]
  exact least_below H.nd (fun z hz => by obtain ⟨r, hr, rfl⟩ := List.mem_map.mp hz; exact pre_can H (hR.2.2 r hr)) _ _ (Nat.le_refl _) (List.mem_map.mpr ⟨r, hr, rfl⟩)
theorem lots_no (hR : okRows names R) (hn : n ∈ names) {z : List Str} (hz : z ∈ l_lots R n) : ¬ n ∈ z := by
  obtain ⟨r, hr, rfl⟩ := lots_pre hz
  rw [pre_mem]
  exact pre_no ((hR.2.2 r hr).mem_iff.mpr hn)
theorem okLot_iff {mine : List (List Str)} {z : List Str} : okLot mine z = true ↔ ∃ w ∈ mine, sub w z := by
  unfold okLot
  rw [Bool.not_eq_true', decide_eq_false_iff_not, List.filter_eq_nil_iff]
  constructor
  · intro h
    refine Classical.byContradiction fun hc => h fun w hw hp => hc ⟨w, hw, (part_iff w z).mp hp⟩
  · rintro ⟨w, hw, hs⟩ h
    exact h w hw ((part_iff w z).mpr hs)
theorem within_iff : l_is_within names R O = true ↔ ∀ n ∈ names, ∀ z ∈ l_lots R n, ∃ w ∈ l_lots O n, sub w z := by
  unfold l_is_within
  simp only [List.all_eq_true, okLot_iff]
theorem alike_iff : l_is_alike names R O = true ↔ (∀ n ∈ names, ∀ z ∈ l_lots R n, ∃ w ∈ l_lots O n, sub w z) ∧ ∀ n ∈ names, ∀ z ∈ l_lots O n, ∃ w ∈ l_lots R n, sub w z := by
  unfold l_is_alike
  rw [Bool.and_eq_true, within_iff, within_iff]
theorem lots_least {z : List Str} (hz : z ∈ l_lots R n) {w : List Str} (hw : w ∈ l_lots R n) (h : sub w z) : w = z := by
  rw [lots_def] at hz hw
  exact (least_mem.mp hz).2 w (least_mem.mp hw).1 h
/-- alike: the same lots -/
theorem lots_same (H : OkN names) (hR : okRows names R) (hO : okRows names O) (hn : n ∈ names) (h : l_is_alike names R O = true) : l_lots O n = l_lots R n := by
  obtain ⟨h1, h2⟩ := alike_iff.mp h
  have key : ∀ {A B : List (List Str)}, okRows names A → okRows names B → (∀ z ∈ l_lots A n, ∃ w ∈ l_lots B n, sub w z) → (∀ z ∈ l_lots B n, ∃ w ∈ l_lots A n, sub w z) → ∀ z ∈ l_lots A n, z ∈ l_lots B n := fun hA hB g1 g2 z hz => by
    obtain ⟨w, hw, hs⟩ := g1 z hz
    obtain ⟨v, hv, hs2⟩ := g2 w hw
    have e : v = z := lots_least hz hv fun x hx => hs x (hs2 x hx)
    subst e
    have e2 : w = v := sub_anti H.nd (lots_can H hB hw) (lots_can H hA hz) hs hs2
    rw [← e2]; exact hw
  refine uniq_sorted (least_pw _) (least_pw _) (least_nodup _) (least_nodup _) fun a => ⟨key hO hR (h2 n hn) (h1 n hn) a, key hR hO (h1 n hn) (h2 n hn) a⟩
theorem alike_refl : l_is_alike names R R = true := alike_iff.mpr ⟨fun n _ z hz => ⟨z, hz, fun _ h => h⟩, fun n _ z hz => ⟨z, hz, fun _ h => h⟩⟩
theorem lots_rev : l_lots R.reverse n = l_lots R n := by
  have e : srt (R.reverse.map fun r => preL r n) = srt (R.map fun r => preL r n) := srt_eq ((List.reverse_perm R).map _)
  rw [lots_def, lots_def]
  unfold l_least
  rw [e]
theorem alike_rev : l_is_alike names R R.reverse = true := by
  have h := alike_refl (names := names) (R := R)
  rw [alike_iff] at h ⊢
  simp only [lots_rev]
  exact h
end
end Cp
namespace Cp
open PySem PySem.Spec PyProof.Rows L2
/-! ### fields -/
theorem stepF_mem {acc : List (List Str)} {n : Str} {s : List Str} : s ∈ stepF acc n ↔ s ∈ acc ∨ ∃ a ∈ acc, s = a ++ [n] := by
  unfold stepF
  rw [List.mem_append, List.mem_map]
  constructor
  · rintro (h | ⟨a, h1, h2⟩)
    · exact .inl h
    · exact .inr ⟨a, h1, h2.symm⟩
  · rintro (h | ⟨a, h1, h2⟩)
    · exact .inl h
    · exact .inr ⟨a, h1, h2.symm⟩
theorem stepF_all (ns : List Str) : ∀ (acc : List (List Str)) (s : List Str), s ∈ ns.foldl stepF acc ↔ ∃ a ∈ acc, ∃ t : List Str, t.Sublist ns ∧ s = a ++ t := by
  induction ns with
  | nil =>
    intro acc s
    simp only [List.foldl_nil]
    constructor
    · intro h; exact ⟨s, h, [], List.Sublist.refl _, by simp⟩
    · rintro ⟨a, h, t, ht, rfl⟩
      rw [List.sublist_nil.mp ht, List.append_nil]; exact h
  | cons n ns ih =>
    intro acc s
    rw [List.foldl_cons, ih]
    constructor
    · rintro ⟨a, ha, t, ht, rfl⟩
      rcases stepF_mem.mp ha with h | ⟨b, hb, rfl⟩
      · exact ⟨a, h, t, ht.cons n, rfl⟩
      · exact ⟨b, hb, n :: t, ht.cons_cons n, by simp⟩
    · rintro ⟨a, ha, t, ht, rfl⟩
      cases ht with
      | cons _ h => exact ⟨a, stepF_mem.mpr (.inl ha), t, h, rfl⟩
      | cons_cons _ h => exact ⟨a ++ [n], stepF_mem.mpr (.inr ⟨a, ha, rfl⟩), _, h, by simp⟩
theorem stepF_head (ns : List Str) : ∀ rest : List (List Str), (∀ s ∈ rest, s ≠ []) → ∃ rest', ns.foldl stepF ([] :: rest) = [] :: rest' ∧ ∀ s ∈ rest', s ≠ [] := by
  induction ns with
  | nil => intro rest h; exact ⟨rest, rfl, h⟩
  | cons n ns ih =>
    intro rest h
    rw [List.foldl_cons]
    have e : stepF ([] :: rest) n = [] :: (rest ++ ([] :: rest).map fun (y : List Str) => y ++ ([n] : List Str)) := rfl
    rw [e]
    refine ih _ fun s hs => ?_
    rcases List.mem_append.mp hs with z | z
    · exact h s z
    · obtain ⟨a, _, rfl⟩ := List.mem_map.mp z
      simp
theorem fields_mem {ns s : List Str} : s ∈ l_fields ns ↔ s.Sublist ns ∧ s ≠ [] := by
  unfold l_fields
  obtain ⟨rest, e, h⟩ := stepF_head ns [] (by simp)
  have hm := stepF_all ns [[]] s
  rw [e] at hm ⊢
  rw [List.drop_one, List.tail_cons]
  constructor
  · intro hs
    obtain ⟨a, ha, t, ht, rfl⟩ := hm.mp (List.mem_cons_of_mem _ hs)
    rw [List.mem_singleton.mp ha, List.nil_append] at hs ⊢
    exact ⟨ht, h _ hs⟩
  · rintro ⟨h1, h2⟩
    have h3 := hm.mpr ⟨[], List.mem_singleton.mpr rfl, s, h1, by simp⟩
    rcases List.mem_cons.mp h3 with z | z
    · exact absurd z h2
    · exact z
/-! ### what meets all -/
def hits (f : List Str) (L : List (List Str)) : Prop := ∀ z ∈ L, ∃ y ∈ z, y ∈ f
section
variable {names : List Str} {R O : List (List Str)} {n : Str}
abbrev less (names : List Str) (n : Str) : List Str := List.filter (fun (y : Str) => (!decide (y = n))) names
theorem less_no : ¬ n ∈ less names n := fun h => by
  have := (List.mem_filter.mp h).2
  simp at this
theorem less_can (h : can (less names n) f) : can names f := h.trans List.filter_sublist
theorem hits_lots (H : OkN names) (hR : okRows names R) {f : List Str} : hits f (l_lots R n) ↔ ∀ r ∈ R, ∃ y ∈ f, y ∈ preL r n := by
  constructor
  · intro h r hr
    obtain ⟨z, hz, hs⟩ := lots_below H hR (n := n) hr
    obtain ⟨y, hy, hf⟩ := h z hz
    exact ⟨y, hf, hs y hy⟩
  · intro h z hz
    obtain ⟨r, hr, rfl⟩ := lots_pre hz
    obtain ⟨y, hy, hp⟩ := h r hr
    exact ⟨y, hp, hy⟩
/-- a field that every row keeps -/
def HS (names : List Str) (R : List (List Str)) (n : Str) (f : List Str) : Prop := can (less names n) f ∧ hits f (l_lots R n)
theorem off_list (H : OkN names) (hR : okRows names R) (hn : n ∈ names) {f : List Str} :
    f ∈ List.filter (fun (y : List Str) => (decide ((List.filter (fun (y2 : List Str) => (!(l_row_keeps y2 y n))) R) = []))) (l_fields (less names n)) ↔ HS names R n f := by
  rw [List.mem_filter, fields_mem, decide_eq_true_iff, List.filter_eq_nil_iff]
  have e : (∀ a ∈ R, ¬ (!(l_row_keeps a f n)) = true) ↔ hits f (l_lots R n) := by
    rw [hits_lots H hR]
    refine forall_congr' fun r => forall_congr' fun hr => ?_
    rw [← keeps_iff ((hR.2.2 r hr).mem_iff.mpr hn)]
    cases l_row_keeps r f n <;> simp
  rw [e]
  constructor
  · rintro ⟨⟨h1, _⟩, h2⟩; exact ⟨h1, h2⟩
  · rintro ⟨h1, h2⟩
    refine ⟨⟨h1, fun z => ?_⟩, h2⟩
    subst z
    cases hR0 : R with
    | nil => rw [hR0] at hR; exact absurd hR.1 (by simp)
    | cons r rs =>
      obtain ⟨z, hz, _⟩ := lots_below H hR (n := n) (r := r) (by rw [hR0]; exact List.mem_cons_self)
      obtain ⟨y, _, hy⟩ := h2 z hz
      cases hy
theorem lofs_mem (H : OkN names) (hR : okRows names R) (hn : n ∈ names) {f : List Str} : f ∈ l_least_offs names R n ↔ HS names R n f ∧ ∀ g, HS names R n g → sub g f → g = f := by
  unfold l_least_offs
  rw [least_mem, off_list H hR hn]
  exact and_congr_right fun _ => ⟨fun h g hg hs => h g ((off_list H hR hn).mpr hg) hs, fun h g hg hs => h g ((off_list H hR hn).mp hg) hs⟩
theorem offs_below (H : OkN names) (hR : okRows names R) (hn : n ∈ names) {g : List Str} (hg : HS names R n g) : ∃ f ∈ l_least_offs names R n, sub f g := by
  unfold l_least_offs
  exact least_below H.nd (fun z hz => less_can ((off_list H hR hn).mp hz).1) _ _ (Nat.le_refl _) ((off_list H hR hn).mpr hg)
theorem HS_up {f g : List Str} (hg : can (less names n) g) (hf : HS names R n f) (h : sub f g) : HS names R n g :=
  ⟨hg, fun z hz => by obtain ⟨y, hy, hyf⟩ := hf.2 z hz; exact ⟨y, hy, h y hyf⟩⟩
end
end Cp
namespace Cp
open PySem PySem.Spec PyProof.Rows L2
/-! ### marks -/
theorem bit_one : ∀ m : Fin 16, ∀ i : Fin 4, (Builtin.bitAnd ((m.val : Nat) : Int) (2 ^ i.val) != 0) = m.val.testBit i.val := by decide +kernel
theorem bit_two : ∀ a b : Fin 16, (Builtin.bitAnd ((a.val : Nat) : Int) ((b.val : Nat) : Int) != 0) = true ↔ ∃ i : Fin 4, a.val.testBit i.val = true ∧ b.val.testBit i.val = true := by decide +kernel
theorem bit_sub : ∀ m : Fin 16, ∀ i : Fin 4, m.val.testBit i.val = true → 2 ^ i.val ≤ m.val ∧ ∀ j : Fin 4, (m.val - 2 ^ i.val).testBit j.val = (m.val.testBit j.val && !decide (j.val = i.val)) := by decide +kernel
theorem bit_ext : ∀ a b : Fin 16, (∀ i : Fin 4, a.val.testBit i.val = b.val.testBit i.val) → a = b := by decide +kernel
theorem bit_hi : ∀ k : Fin 5, ∀ m : Fin 16, m.val < 2 ^ k.val → ∀ j : Fin 4, k.val ≤ j.val → m.val.testBit j.val = false := by decide +kernel
theorem bit_mk : ∀ f : Fin 4 → Bool, ∃ m : Fin 16, ∀ i : Fin 4, m.val.testBit i.val = f i := by
  intro f
  have h : ∀ a b c d : Bool, ∃ m : Fin 16, m.val.testBit 0 = a ∧ m.val.testBit 1 = b ∧ m.val.testBit 2 = c ∧ m.val.testBit 3 = d := by decide +kernel
  obtain ⟨m, h0, h1, h2, h3⟩ := h (f 0) (f 1) (f 2) (f 3)
  refine ⟨m, fun i => ?_⟩
  match i with
  | 0 => exact h0
  | 1 => exact h1
  | 2 => exact h2
  | 3 => exact h3
theorem bit_lo : ∀ k : Fin 5, ∀ m : Fin 16, (∀ j : Fin 4, k.val ≤ j.val → m.val.testBit j.val = false) → m.val < 2 ^ k.val := by decide +kernel
/-- what a mark stands for -/
def gOf (U : List Str) (m : Nat) : List Str := ((numb U).filter fun (p : Int × Str) => (Builtin.bitAnd (m : Int) (m_doubled p.1)) != 0).map fun (p : Int × Str) => p.2
theorem numb_mem {U : List Str} {p : Int × Str} : p ∈ numb U ↔ ∃ i : Nat, U[i]? = some p.2 ∧ p.1 = (i : Int) := by
  unfold numb
  rw [List.mem_map]
  constructor
  · rintro ⟨⟨x, i⟩, h, rfl⟩
    exact ⟨i, by have := List.mem_zipIdx_iff_getElem?.mp h; exact this, rfl⟩
  · rintro ⟨i, h1, h2⟩
    exact ⟨(p.2, i), List.mem_zipIdx_iff_getElem?.mpr h1, by cases p; simp at h2; rw [h2]⟩
theorem dbl (i : Nat) : m_doubled (i : Int) = 2 ^ i := by
  unfold m_doubled
  rw [Int.toNat_natCast]
section
variable {U : List Str} (hU : U.length ≤ 4)
include hU
theorem gOf_mem {m : Nat} (hm : m < 16) {y : Str} : y ∈ gOf U m ↔ ∃ i : Nat, U[i]? = some y ∧ m.testBit i = true := by
  unfold gOf
  rw [List.mem_map]
  constructor
  · rintro ⟨p, hp, rfl⟩
    obtain ⟨h1, h2⟩ := List.mem_filter.mp hp
    obtain ⟨i, hi, e⟩ := numb_mem.mp h1
    have hlt := (List.getElem?_eq_some_iff.mp hi).1
    rw [e, dbl] at h2
    have h3 := bit_one ⟨m, hm⟩ ⟨i, by omega⟩
    exact ⟨i, hi, by rw [← h3]; exact h2⟩
  · rintro ⟨i, hi, hb⟩
    have hlt := (List.getElem?_eq_some_iff.mp hi).1
    refine ⟨((i : Int), y), List.mem_filter.mpr ⟨numb_mem.mpr ⟨i, hi, rfl⟩, ?_⟩, rfl⟩
    rw [dbl]
    have h3 := bit_one ⟨m, hm⟩ ⟨i, by omega⟩
    exact h3.trans hb
theorem gOf_can {m : Nat} : can U (gOf U m) := by
  unfold gOf
  have e : U = (numb U).map fun (p : Int × Str) => p.2 := by
    unfold numb
    rw [List.map_map]
    have : ((fun (p : Int × Str) => p.2) ∘ fun (p : Str × Nat) => ((p.2 : Int), p.1)) = Prod.fst := rfl
    rw [this, List.zipIdx_map_fst]
  have h := (List.filter_sublist (p := fun (p : Int × Str) => (Builtin.bitAnd (m : Int) (m_doubled p.1)) != 0) (l := numb U)).map fun (p : Int × Str) => p.2
  rw [← e] at h
  exact h
end
theorem mark_bits : ∀ b0 b1 b2 b3 : Bool, ∃ M : Fin 16, ((cond b0 1 0 + (cond b1 2 0 + (cond b2 4 0 + cond b3 8 0)) : Nat)) = M.val ∧ M.val.testBit 0 = b0 ∧ M.val.testBit 1 = b1 ∧ M.val.testBit 2 = b2 ∧ M.val.testBit 3 = b3 := by decide +kernel
theorem mark_gen (lot : List Str) : ∀ (U : List Str) (k : Nat), (List.map (fun (y : (Int × Str)) => (m_doubled y.1)) (List.filter (fun (y : (Int × Str)) => (decide (y.2 ∈ lot))) ((U.zipIdx k).map fun p => ((p.2 : Int), p.1)))).sum = (((U.zipIdx k).map fun p => cond (decide (p.1 ∈ lot)) (2 ^ p.2) 0).sum : Nat)
  | [], k => rfl
  | u :: U, k => by
    have ih := mark_gen lot U (k + 1)
    rw [List.zipIdx_cons, List.map_cons, List.filter_cons, List.map_cons, List.sum_cons]
    by_cases c : u ∈ lot
    · simp only [c, decide_true, if_true, List.map_cons, List.sum_cons, cond_true]
      rw [ih, dbl]
      simp
    · simp only [c, decide_false, Bool.false_eq_true, if_false, cond_false, Nat.zero_add]
      exact ih
/-- a lot's mark -/
theorem mark_ok {U : List Str} (hU : U.length ≤ 4) (lot : List Str) : ∃ M : Fin 16, m_mark_of U lot = ((M.val : Nat) : Int) ∧ ∀ i : Fin 4, M.val.testBit i.val = true ↔ ∃ y, U[i.val]? = some y ∧ y ∈ lot := by
  have e : m_mark_of U lot = (((U.zipIdx 0).map fun p => cond (decide (p.1 ∈ lot)) (2 ^ p.2) 0).sum : Nat) := mark_gen lot U 0
  rw [e]
  have fin : ∀ b0 b1 b2 b3 : Bool, ∀ V : Nat, V = (cond b0 1 0 + (cond b1 2 0 + (cond b2 4 0 + cond b3 8 0)) : Nat) → (b0 = true ↔ ∃ y, U[0]? = some y ∧ y ∈ lot) → (b1 = true ↔ ∃ y, U[1]? = some y ∧ y ∈ lot) → (b2 = true ↔ ∃ y, U[2]? = some y ∧ y ∈ lot) → (b3 = true ↔ ∃ y, U[3]? = some y ∧ y ∈ lot) → ∃ M : Fin 16, ((V : Nat) : Int) = ((M.val : Nat) : Int) ∧ ∀ i : Fin 4, M.val.testBit i.val = true ↔ ∃ y, U[i.val]? = some y ∧ y ∈ lot := by
    intro b0 b1 b2 b3 V hV h0 h1 h2 h3
    obtain ⟨M, e, t0, t1, t2, t3⟩ := mark_bits b0 b1 b2 b3
    refine ⟨M, by rw [hV, e], fun i => ?_⟩
    match i with
    | 0 => exact (show M.val.testBit 0 = true ↔ ∃ y, U[0]? = some y ∧ y ∈ lot by rw [t0]; exact h0)
    | 1 => exact (show M.val.testBit 1 = true ↔ ∃ y, U[1]? = some y ∧ y ∈ lot by rw [t1]; exact h1)
    | 2 => exact (show M.val.testBit 2 = true ↔ ∃ y, U[2]? = some y ∧ y ∈ lot by rw [t2]; exact h2)
    | 3 => exact (show M.val.testBit 3 = true ↔ ∃ y, U[3]? = some y ∧ y ∈ lot by rw [t3]; exact h3)
  match U, hU with
  | [], _ => exact fin false false false false _ rfl (by simp) (by simp) (by simp) (by simp)
  | [a], _ => exact fin (decide (a ∈ lot)) false false false _ (by simp [List.zipIdx]) (by simp) (by simp) (by simp) (by simp)
  | [a, b], _ => exact fin (decide (a ∈ lot)) (decide (b ∈ lot)) false false _ (by simp [List.zipIdx]) (by simp) (by simp) (by simp) (by simp)
  | [a, b, c], _ => exact fin (decide (a ∈ lot)) (decide (b ∈ lot)) (decide (c ∈ lot)) false _ (by simp [List.zipIdx]) (by simp) (by simp) (by simp) (by simp)
  | [a, b, c, d], _ => exact fin (decide (a ∈ lot)) (decide (b ∈ lot)) (decide (c ∈ lot)) (decide (d ∈ lot)) _ (by simp [List.zipIdx]) (by simp) (by simp) (by simp) (by simp)
  | _ :: _ :: _ :: _ :: _ :: _, h => simp at h
end Cp
namespace Cp
open PySem PySem.Spec PyProof.Rows L2
theorem stepN_mem (lots : List (List Str)) : ∀ (acc : List Str) (y : Str), y ∈ lots.foldl stepNames acc ↔ y ∈ acc ∨ ∃ z ∈ lots, y ∈ z := by
  induction lots with
  | nil => intro acc y; simp
  | cons l lots ih =>
    intro acc y
    rw [List.foldl_cons, ih]
    unfold stepNames
    simp only [List.mem_append, List.mem_filter, List.mem_cons, exists_eq_or_imp]
    constructor
    · rintro ((h | h) | h)
      · exact .inl h
      · exact .inr (.inl h.1)
      · exact .inr (.inr h)
    · rintro (h | h | h)
      · exact .inl (.inl h)
      · by_cases c : y ∈ acc
        · exact .inl (.inl c)
        · exact .inl (.inr ⟨h, by simp [c]⟩)
      · exact .inr h
theorem stepN_nodup (lots : List (List Str)) (hl : ∀ z ∈ lots, z.Nodup) : ∀ acc : List Str, acc.Nodup → (lots.foldl stepNames acc).Nodup := by
  induction lots with
  | nil => intro acc h; exact h
  | cons l lots ih =>
    intro acc h
    rw [List.foldl_cons]
    refine ih (fun z hz => hl z (List.mem_cons_of_mem _ hz)) _ ?_
    unfold stepNames
    rw [List.nodup_append]
    refine ⟨h, (hl l List.mem_cons_self).sublist List.filter_sublist, fun a ha b hb e => ?_⟩
    subst e
    have := (List.mem_filter.mp hb).2
    simp [ha] at this
theorem names_in_mem {lots : List (List Str)} {y : Str} : y ∈ m_names_in lots ↔ ∃ z ∈ lots, y ∈ z := by
  unfold m_names_in
  rw [srt_mem, stepN_mem]
  simp
section
variable {names : List Str} {R O : List (List Str)} {n : Str}
theorem names_in_can (H : OkN names) (hR : okRows names R) : can names (m_names_in (l_lots R n)) := by
  unfold m_names_in
  rw [srt_can H.nd H.so (stepN_nodup _ (fun z hz => (lots_can H hR hz).nodup H.nd) [] List.nodup_nil) fun x hx => by
    rcases (stepN_mem _ _ _).mp hx with h | ⟨z, hz, h⟩
    · cases h
    · exact can_sub (lots_can H hR hz) x h]
  exact can_filter _
theorem names_in_len (H : OkN names) (hR : okRows names R) : (m_names_in (l_lots R n)).length ≤ 4 := Nat.le_trans (names_in_can H hR).length_le H.hi
end
/-- all met, by marks -/
theorem meets_iff {U : List Str} (hU : U.length ≤ 4) {lots : List (List Str)} {m : Nat} (hm : m < 16) : m_meets_all (m : Int) (lots.map fun (y : List Str) => m_mark_of U y) = true ↔ hits (gOf U m) lots := by
  unfold m_meets_all hits
  rw [List.all_map, List.all_eq_true]
  refine forall_congr' fun z => forall_congr' fun _ => ?_
  obtain ⟨M, e, hb⟩ := mark_ok hU z
  show (Builtin.bitAnd (m_mark_of U z) (m : Int) != 0) = true ↔ _
  rw [e, bit_two M ⟨m, hm⟩]
  constructor
  · rintro ⟨i, h1, h2⟩
    obtain ⟨y, hy, hyz⟩ := (hb i).mp h1
    exact ⟨y, hyz, (gOf_mem hU hm).mpr ⟨i.val, hy, h2⟩⟩
  · rintro ⟨y, hyz, hyg⟩
    obtain ⟨i, hi, h2⟩ := (gOf_mem hU hm).mp hyg
    have hlt := (List.getElem?_eq_some_iff.mp hi).1
    exact ⟨⟨i, by omega⟩, (hb ⟨i, by omega⟩).mpr ⟨y, hi, hyz⟩, h2⟩
theorem least_mark_iff {U : List Str} (hU : U.length ≤ 4) {lots : List (List Str)} {m : Nat} (hm : m < 16) :
    m_is_least_mark (m : Int) (lots.map fun (y : List Str) => m_mark_of U y) (U.length : Int) = true ↔ hits (gOf U m) lots ∧ ∀ i, i < U.length → m.testBit i = true → ¬ hits (gOf U (m - 2 ^ i)) lots := by
  unfold m_is_least_mark
  cases e : m_meets_all (m : Int) (lots.map fun (y : List Str) => m_mark_of U y) with
  | false =>
    have h1 : ¬ hits (gOf U m) lots := fun z => by rw [(meets_iff hU hm).mpr z] at e; cases e
    simp [h1]
  | true =>
    have h1 := (meets_iff hU hm).mp e
    rw [Bool.not_true, cond_false, decide_eq_true_iff, List.filter_eq_nil_iff, Int.toNat_natCast]
    have key : ∀ i, i < U.length → (((Builtin.bitAnd (m : Int) (m_doubled (i : Int)) != 0) && m_meets_all ((m : Int) - m_doubled (i : Int)) (lots.map fun (y : List Str) => m_mark_of U y)) = true ↔ m.testBit i = true ∧ hits (gOf U (m - 2 ^ i)) lots) := fun i hi => by
      have hb := bit_one ⟨m, hm⟩ ⟨i, by omega⟩
      rw [dbl, Bool.and_eq_true]
      have hb' : (Builtin.bitAnd (m : Int) (2 ^ i) != 0) = m.testBit i := hb
      rw [hb']
      refine and_congr_right fun hbit => ?_
      have hs := (bit_sub ⟨m, hm⟩ ⟨i, by omega⟩ hbit).1
      have ec : (m : Int) - 2 ^ i = ((m - 2 ^ i : Nat) : Int) := by
        have hs' : 2 ^ i ≤ m := hs
        have e2 : ((2 ^ i : Nat) : Int) = 2 ^ i := by simp
        rw [← e2]
        exact (Int.natCast_sub hs').symm
      rw [ec, meets_iff hU (Nat.lt_of_le_of_lt (Nat.sub_le _ _) hm)]
    constructor
    · intro h
      refine ⟨h1, fun i hi hbit hh => ?_⟩
      refine h (i : Int) (List.mem_map.mpr ⟨i, List.mem_range.mpr hi, rfl⟩) ((key i hi).mpr ⟨hbit, hh⟩)
    · rintro ⟨_, h2⟩ y hy hc
      unfold upto at hy
      obtain ⟨i, hi, rfl⟩ := List.mem_map.mp hy
      have hi' := List.mem_range.mp hi
      obtain ⟨a, b⟩ := (key i hi').mp hc
      exact h2 i hi' a b
/-- what meeting gives -/
theorem meeting_mem {lots : List (List Str)} (hU : (m_names_in lots).length ≤ 4) {g : List Str} : g ∈ m_least_meeting lots ↔ ∃ m, m < 2 ^ (m_names_in lots).length ∧ (hits (gOf (m_names_in lots) m) lots ∧ ∀ i, i < (m_names_in lots).length → m.testBit i = true → ¬ hits (gOf (m_names_in lots) (m - 2 ^ i)) lots) ∧ g = gOf (m_names_in lots) m := by
  have h16 : (2 : Nat) ^ (m_names_in lots).length ≤ 2 ^ 4 := Nat.pow_le_pow_right (by decide) hU
  have ed : Int.toNat (m_doubled ((m_names_in lots).length : Int)) = 2 ^ (m_names_in lots).length := by
    rw [dbl]
    have : ((2 : Int) ^ (m_names_in lots).length) = ((2 ^ (m_names_in lots).length : Nat) : Int) := by simp
    rw [this, Int.toNat_natCast]
  unfold m_least_meeting m_meeting
  rw [srt_mem, List.mem_map]
  constructor
  · rintro ⟨y, hy, rfl⟩
    obtain ⟨h1, h2⟩ := List.mem_filter.mp hy
    rw [ed] at h1
    unfold upto at h1
    obtain ⟨m, hm, rfl⟩ := List.mem_map.mp h1
    have hm' := List.mem_range.mp hm
    exact ⟨m, hm', (least_mark_iff hU (by omega)).mp h2, rfl⟩
  · rintro ⟨m, hm, h2, rfl⟩
    exact ⟨(m : Int), List.mem_filter.mpr ⟨by rw [ed]; exact List.mem_map.mpr ⟨m, List.mem_range.mpr hm, rfl⟩, (least_mark_iff hU (by omega)).mpr h2⟩, rfl⟩
theorem gOf_inj {U : List Str} (hU : U.length ≤ 4) (hd : U.Nodup) {a b : Nat} (ha : a < 2 ^ U.length) (hb : b < 2 ^ U.length) (h : gOf U a = gOf U b) : a = b := by
  have h16 : (2 : Nat) ^ U.length ≤ 2 ^ 4 := Nat.pow_le_pow_right (by decide) hU
  have a16 : a < 16 := by omega
  have b16 : b < 16 := by omega
  have e := bit_ext ⟨a, a16⟩ ⟨b, b16⟩ fun i => by
    by_cases c : i.val < U.length
    · have hx : U[i.val]? = some U[i.val] := List.getElem?_eq_getElem c
      have key : ∀ {m : Nat}, m < 16 → (U[i.val] ∈ gOf U m ↔ m.testBit i.val = true) := fun hm => by
        rw [gOf_mem hU hm]
        constructor
        · rintro ⟨j, hj, hbit⟩
          obtain ⟨hj1, hj2⟩ := List.getElem?_eq_some_iff.mp hj
          have : j = i.val := by
            have hp := List.pairwise_iff_getElem.mp hd
            rcases Nat.lt_trichotomy j i.val with z | z | z
            · exact absurd hj2 (hp j i.val hj1 c z)
            · exact z
            · exact absurd hj2.symm (hp i.val j c hj1 z)
          rw [← this]; exact hbit
        · intro hbit; exact ⟨i.val, hx, hbit⟩
      have h1 := key a16
      rw [h] at h1
      have h2 := h1.symm.trans (key b16)
      show a.testBit i.val = b.testBit i.val
      cases ea : a.testBit i.val <;> cases eb : b.testBit i.val <;> simp_all
    · show a.testBit i.val = b.testBit i.val
      rw [bit_hi ⟨U.length, by omega⟩ ⟨a, a16⟩ ha i (by show U.length ≤ i.val; omega), bit_hi ⟨U.length, by omega⟩ ⟨b, b16⟩ hb i (by show U.length ≤ i.val; omega)]
  exact congrArg Fin.val e
theorem meeting_nodup {lots : List (List Str)} (hU : (m_names_in lots).length ≤ 4) (hd : (m_names_in lots).Nodup) : (m_least_meeting lots).Nodup := by
  have ed : Int.toNat (m_doubled ((m_names_in lots).length : Int)) = 2 ^ (m_names_in lots).length := by
    rw [dbl]
    have : ((2 : Int) ^ (m_names_in lots).length) = ((2 ^ (m_names_in lots).length : Nat) : Int) := by simp
    rw [this, Int.toNat_natCast]
  unfold m_least_meeting m_meeting
  rw [(srt_perm _).nodup_iff, ed]
  have hnd : (List.filter (fun (y19 : Int) => (m_is_least_mark y19 (List.map (fun (y17 : List Str) => (m_mark_of (m_names_in lots) y17)) lots) ((m_names_in lots).length : Int))) (upto (2 ^ (m_names_in lots).length))).Nodup := by
    refine List.Nodup.sublist List.filter_sublist ?_
    unfold upto
    exact List.Pairwise.map _ (fun a b h e => h (by have e : (a : Int) = (b : Int) := e; omega)) List.nodup_range
  rw [List.Nodup, List.pairwise_map]
  refine List.Pairwise.imp_of_mem (fun {a b} ha hb hne e => hne ?_) hnd
  have ha1 := (List.mem_filter.mp ha).1
  have hb1 := (List.mem_filter.mp hb).1
  unfold upto at ha1 hb1
  obtain ⟨i, hi, rfl⟩ := List.mem_map.mp ha1
  obtain ⟨j, hj, rfl⟩ := List.mem_map.mp hb1
  rw [gOf_inj hU hd (List.mem_range.mp hi) (List.mem_range.mp hj) e]
end Cp
namespace Cp
open PySem PySem.Spec PyProof.Rows L2
theorem idx_eq {U : List Str} (hd : U.Nodup) {i j : Nat} {y : Str} (hi : U[i]? = some y) (hj : U[j]? = some y) : i = j := by
  obtain ⟨h1, e1⟩ := List.getElem?_eq_some_iff.mp hi
  obtain ⟨h2, e2⟩ := List.getElem?_eq_some_iff.mp hj
  have hp := List.pairwise_iff_getElem.mp hd
  rcases Nat.lt_trichotomy i j with z | z | z
  · exact absurd (e1.trans e2.symm) (hp i j h1 h2 z)
  · exact z
  · exact absurd (e2.trans e1.symm) (hp j i h2 h1 z)
section
variable {names : List Str} {R O : List (List Str)} {n : Str}
theorem sub_can (hn : names.Nodup) {s t : List Str} (hs : can names s) (ht : can names t) (h : sub s t) : can t s := by
  have e : s = t.filter fun (y : Str) => decide (y ∈ s) := by
    conv => lhs; rw [can_self hn hs]
    conv => rhs; rw [can_self hn ht]
    rw [List.filter_filter]
    refine List.filter_congr fun x _ => ?_
    by_cases c : x ∈ s
    · simp [c, h x c]
    · simp [c]
  rw [e]
  exact List.filter_sublist
theorem meet_eq (H : OkN names) (hR : okRows names R) (hn : n ∈ names) : m_least_meeting (l_lots R n) = l_least_offs names R n := by
  have hUc : can names (m_names_in (l_lots R n)) := names_in_can H hR
  have hUd : (m_names_in (l_lots R n)).Nodup := hUc.nodup H.nd
  have hU : (m_names_in (l_lots R n)).length ≤ 4 := names_in_len H hR
  have h16 : (2 : Nat) ^ (m_names_in (l_lots R n)).length ≤ 2 ^ 4 := Nat.pow_le_pow_right (by decide) hU
  have hUl : can (less names n) (m_names_in (l_lots R n)) := sub_can H.nd hUc (can_filter _) fun y hy => by
    obtain ⟨z, hz, hyz⟩ := names_in_mem.mp hy
    refine List.mem_filter.mpr ⟨can_sub (lots_can H hR hz) y hyz, ?_⟩
    have : ¬ y = n := fun e => lots_no hR hn hz (e ▸ hyz)
    simp [this]
  have hup : ∀ {f g : List Str}, hits f (l_lots R n) → sub f g → hits g (l_lots R n) := fun hf h z hz => by
    obtain ⟨y, hy, hyf⟩ := hf z hz
    exact ⟨y, hy, h y hyf⟩
  refine uniq_sorted (srt_pw _) (by unfold l_least_offs; exact least_pw _) (meeting_nodup hU hUd) (by unfold l_least_offs; exact least_nodup _) fun g => ?_
  rw [meeting_mem hU, lofs_mem H hR hn]
  constructor
  · rintro ⟨m, hm, ⟨h1, h2⟩, rfl⟩
    have hm16 : m < 16 := by omega
    have hgc : can (less names n) (gOf (m_names_in (l_lots R n)) m) := List.Sublist.trans (gOf_can hU) hUl
    refine ⟨⟨hgc, h1⟩, fun f hf hs => ?_⟩
    refine Classical.byContradiction fun hne => ?_
    have hex : ∃ y, y ∈ gOf (m_names_in (l_lots R n)) m ∧ ¬ y ∈ f := Classical.byContradiction fun hz => hne (sub_anti H.nd (less_can hf.1) (less_can hgc) hs fun y hy => Classical.byContradiction fun hc => hz ⟨y, hy, hc⟩)
    obtain ⟨y, hy, hyf⟩ := hex
    obtain ⟨i, hi, hb⟩ := (gOf_mem hU hm16).mp hy
    have hlt := (List.getElem?_eq_some_iff.mp hi).1
    have hbs := bit_sub ⟨m, hm16⟩ ⟨i, by omega⟩ hb
    refine h2 i hlt hb (hup hf.2 fun x hx => ?_)
    obtain ⟨j, hj, hbj⟩ := (gOf_mem hU hm16).mp (hs x hx)
    have hjlt := (List.getElem?_eq_some_iff.mp hj).1
    refine (gOf_mem hU (Nat.lt_of_le_of_lt (Nat.sub_le _ _) hm16)).mpr ⟨j, hj, ?_⟩
    have h9 := hbs.2 ⟨j, by omega⟩
    have h9 : (m - 2 ^ i).testBit j = (m.testBit j && !decide (j = i)) := h9
    rw [h9, hbj]
    have hji : ¬ j = i := fun e => by
      subst e
      rw [hi] at hj
      cases hj
      exact hyf hx
    simp [hji]
  · rintro ⟨⟨hgc, hg⟩, hmin⟩
    have hgU : sub g (m_names_in (l_lots R n)) := by
      have h1 : HS names R n (g.filter fun (y : Str) => decide (y ∈ m_names_in (l_lots R n))) := ⟨List.filter_sublist.trans hgc, fun z hz => by
        obtain ⟨y, hy, hyg⟩ := hg z hz
        exact ⟨y, hy, List.mem_filter.mpr ⟨hyg, decide_eq_true (names_in_mem.mpr ⟨z, hz, hy⟩)⟩⟩⟩
      have e := hmin _ h1 fun y hy => (List.mem_filter.mp hy).1
      intro y hy
      rw [← e] at hy
      exact of_decide_eq_true (List.mem_filter.mp hy).2
    obtain ⟨m, hm⟩ := bit_mk fun i => decide (∃ y, (m_names_in (l_lots R n))[i.val]? = some y ∧ y ∈ g)
    have hbit : ∀ i : Nat, (hi : i < 4) → (m.val.testBit i = true ↔ ∃ y, (m_names_in (l_lots R n))[i]? = some y ∧ y ∈ g) := fun i hi => by
      have := hm ⟨i, hi⟩
      rw [show m.val.testBit i = m.val.testBit (⟨i, hi⟩ : _root_.Fin 4).val from rfl, this]
      exact decide_eq_true_iff
    have hlo : m.val < 2 ^ (m_names_in (l_lots R n)).length := bit_lo ⟨(m_names_in (l_lots R n)).length, by omega⟩ m fun j hj => by
      cases e : m.val.testBit j.val with
      | false => rfl
      | true =>
        obtain ⟨y, hy, _⟩ := (hbit j.val j.isLt).mp e
        have := (List.getElem?_eq_some_iff.mp hy).1
        have hj' : (m_names_in (l_lots R n)).length ≤ j.val := hj
        omega
    have eg : g = gOf (m_names_in (l_lots R n)) m.val := by
      refine can_ext H.nd (less_can hgc) (List.Sublist.trans (gOf_can hU) hUc) fun y => ?_
      rw [gOf_mem hU m.isLt]
      constructor
      · intro hy
        obtain ⟨i, hi⟩ := List.mem_iff_getElem?.mp (hgU y hy)
        have hlt := (List.getElem?_eq_some_iff.mp hi).1
        exact ⟨i, hi, (hbit i (by omega)).mpr ⟨y, hi, hy⟩⟩
      · rintro ⟨i, hi, hb⟩
        have hlt := (List.getElem?_eq_some_iff.mp hi).1
        obtain ⟨y', hy', hg'⟩ := (hbit i (by omega)).mp hb
        rw [hi] at hy'
        cases hy'
        exact hg'
    refine ⟨m.val, hlo, ⟨by rw [← eg]; exact hg, fun i hi hb hh => ?_⟩, eg⟩
    have hbs := bit_sub m ⟨i, by omega⟩ hb
    have h16' : m.val - 2 ^ i < 16 := Nat.lt_of_le_of_lt (Nat.sub_le _ _) m.isLt
    have hs : sub (gOf (m_names_in (l_lots R n)) (m.val - 2 ^ i)) g := fun x hx => by
      obtain ⟨j, hj, hbj⟩ := (gOf_mem hU h16').mp hx
      have hjlt := (List.getElem?_eq_some_iff.mp hj).1
      have h9 : (m.val - 2 ^ i).testBit j = (m.val.testBit j && !decide (j = i)) := hbs.2 ⟨j, by omega⟩
      rw [h9, Bool.and_eq_true] at hbj
      rw [eg]
      exact (gOf_mem hU m.isLt).mpr ⟨j, hj, hbj.1⟩
    have e := hmin _ ⟨List.Sublist.trans (gOf_can hU) hUl, hh⟩ hs
    obtain ⟨y, hy, hyg⟩ := (hbit i (by omega)).mp hb
    rw [← e] at hyg
    obtain ⟨j, hj, hbj⟩ := (gOf_mem hU h16').mp hyg
    have hji := idx_eq hUd hj hy
    subst hji
    have h9 : (m.val - 2 ^ j).testBit j = (m.val.testBit j && !decide (j = j)) := hbs.2 ⟨j, by omega⟩
    rw [h9] at hbj
    simp at hbj
end
end Cp
namespace Cp
open PySem PySem.Spec PyProof.Rows L2
/-- a name's lines -/
def linesOf (names : List Str) (R : List (List Str)) (x : Str) : List Ln := (l_lots R x).map (callLn names x) ++ (l_least_offs names R x).map (offLn x)
def allL (names : List Str) (R : List (List Str)) : List Ln := names.flatMap (linesOf names R)
section
variable {names : List Str} {R O : List (List Str)} {n : Str}
theorem own_flat : ∀ (ns : List Str) (acc : List Ln), ns.foldl (stepL names R) acc = acc ++ ns.flatMap (linesOf names R)
  | [], acc => by simp
  | x :: ns, acc => by
    rw [List.foldl_cons, own_flat ns, List.flatMap_cons]
    unfold stepL linesOf
    rw [List.append_assoc, List.append_assoc, List.append_assoc]
    rfl
theorem own_eq : l_own_lines names R = srt (allL names R) := by
  unfold l_own_lines allL
  rw [own_flat, List.nil_append]
theorem whole_flat (H : OkN names) (hR : okRows names R) : ∀ (ns : List Str) (acc : List Ln), (∀ x ∈ ns, x ∈ names) → ns.foldl (stepW names R) acc = acc ++ ns.flatMap (linesOf names R)
  | [], acc, _ => by simp
  | x :: ns, acc, h => by
    rw [List.foldl_cons, whole_flat H hR ns _ fun y hy => h y (List.mem_cons_of_mem _ hy), List.flatMap_cons]
    unfold stepW linesOf
    rw [lots_eq, meet_eq H hR (h x List.mem_cons_self), List.append_assoc, List.append_assoc, List.append_assoc]
theorem whole_eq (H : OkN names) (hR : okRows names R) : wholeL names R = allL names R := by
  unfold wholeL allL
  rw [whole_flat H hR names [] fun _ h => h, List.nil_append]
theorem lines_mem {x : Str} {ln : Ln} : ln ∈ linesOf names R x ↔ (∃ z ∈ l_lots R x, ln = callLn names x z) ∨ ∃ f ∈ l_least_offs names R x, ln = offLn x f := by
  unfold linesOf
  rw [List.mem_append, List.mem_map, List.mem_map]
  constructor
  · rintro (⟨z, h1, h2⟩ | ⟨z, h1, h2⟩)
    · exact .inl ⟨z, h1, h2.symm⟩
    · exact .inr ⟨z, h1, h2.symm⟩
  · rintro (⟨z, h1, h2⟩ | ⟨z, h1, h2⟩)
    · exact .inl ⟨z, h1, h2.symm⟩
    · exact .inr ⟨z, h1, h2.symm⟩
theorem all_mem {ln : Ln} : ln ∈ allL names R ↔ ∃ x ∈ names, (∃ z ∈ l_lots R x, ln = callLn names x z) ∨ ∃ f ∈ l_least_offs names R x, ln = offLn x f := by
  unfold allL
  rw [List.mem_flatMap]
  simp only [lines_mem]
theorem lines_who {x : Str} {ln : Ln} (h : ln ∈ linesOf names R x) : ln.who = x := by
  rcases lines_mem.mp h with ⟨z, _, rfl⟩ | ⟨f, _, rfl⟩ <;> rfl
theorem call_ne_off {x y : Str} {z f : List Str} : callLn names x z ≠ offLn y f := fun e => by
  have := congrArg Ln.word e
  exact absurd this (show ¬ (("call" : Str) = ("off" : Str)) by decide)
theorem call_inj (H : OkN names) {x y : Str} {z w : List Str} (hz : can names z) (hw : can names w) (e : callLn names x z = callLn names y w) : x = y ∧ z = w := by
  have h1 : x = y := congrArg Ln.who e
  have h2 : List.filter (fun (y : Str) => (!decide (y ∈ z))) names = List.filter (fun (y : Str) => (!decide (y ∈ w))) names := congrArg Ln.lot e
  refine ⟨h1, can_ext H.nd hz hw fun a => ?_⟩
  have key : ∀ {s : List Str}, can names s → (a ∈ s ↔ a ∈ names ∧ ¬ a ∈ List.filter (fun (y : Str) => (!decide (y ∈ s))) names) := fun hs => by
    rw [List.mem_filter]
    constructor
    · intro h
      exact ⟨can_sub hs a h, fun z => by simp [h] at z⟩
    · rintro ⟨h1, h2⟩
      refine Classical.byContradiction fun hc => h2 ⟨h1, by simp [hc]⟩
  rw [key hz, key hw, h2]
theorem off_can (H : OkN names) (hR : okRows names R) (hn : n ∈ names) {f : List Str} (hf : f ∈ l_least_offs names R n) : can (less names n) f := ((lofs_mem H hR hn).mp hf).1.1
theorem linesOf_nodup (H : OkN names) (hR : okRows names R) (x : Str) : (linesOf names R x).Nodup := by
  unfold linesOf
  rw [List.nodup_append]
  refine ⟨?_, ?_, fun a ha b hb e => ?_⟩
  · rw [List.Nodup, List.pairwise_map]
    refine List.Pairwise.imp_of_mem (fun {a b} ha hb hne e => hne ?_) (by rw [lots_def]; exact least_nodup _ : (l_lots R x).Nodup)
    exact (call_inj H (lots_can H hR ha) (lots_can H hR hb) e).2
  · exact List.Pairwise.map _ (fun a b h e => h (congrArg Ln.lot e)) (by unfold l_least_offs; exact least_nodup _ : (l_least_offs names R x).Nodup)
  · obtain ⟨z, _, rfl⟩ := List.mem_map.mp ha
    obtain ⟨f, _, rfl⟩ := List.mem_map.mp hb
    exact call_ne_off e
theorem flat_nodup (H : OkN names) (hR : okRows names R) : ∀ ns : List Str, ns.Nodup → (ns.flatMap (linesOf names R)).Nodup
  | [], _ => by simp
  | x :: ns, h => by
    have hd := List.nodup_cons.mp h
    rw [List.flatMap_cons, List.nodup_append]
    refine ⟨linesOf_nodup H hR x, flat_nodup H hR ns hd.2, fun a ha b hb e => ?_⟩
    subst e
    obtain ⟨y, hy, hay⟩ := List.mem_flatMap.mp hb
    have e1 := lines_who ha
    have e2 := lines_who hay
    exact hd.1 ((e1.symm.trans e2) ▸ hy)
theorem all_nodup (H : OkN names) (hR : okRows names R) : (allL names R).Nodup := flat_nodup H hR names H.nd
theorem told_eq (H : OkN names) (hR : okRows names R) : m_told names R = l_own_lines names R := by
  unfold m_told
  rw [whole_eq H hR, own_eq]
  exact dd_id ((srt_perm _).nodup_iff.mpr (all_nodup H hR))
theorem own_mem {ln : Ln} : ln ∈ l_own_lines names R ↔ ln ∈ allL names R := by
  rw [own_eq, srt_mem]
theorem own_nodup (H : OkN names) (hR : okRows names R) : (l_own_lines names R).Nodup := by
  rw [own_eq]
  exact (srt_perm _).nodup_iff.mpr (all_nodup H hR)
theorem own_dupl (H : OkN names) (hR : okRows names R) : dd (srt (l_own_lines names R).reverse) = l_own_lines names R := by
  have e : srt (l_own_lines names R).reverse = l_own_lines names R := by
    rw [srt_eq (List.reverse_perm _), own_eq, srt_srt]
  rw [e]
  exact dd_id (own_nodup H hR)
/-! ### what keeps a line -/
theorem call_kept (H : OkN names) (hR : okRows names R) (hO : okRows names O) (hn : n ∈ names) {z : List Str} (hz : z ∈ l_lots R n) : m_break (callLn names n z) O = false ↔ ∃ w ∈ l_lots O n, sub w z := by
  have hnz : ¬ n ∈ z := lots_no hR hn hz
  have hq : decide (n ∈ List.filter (fun (y : Str) => (!decide (y ∈ z))) names) = true := decide_eq_true (List.mem_filter.mpr ⟨hn, by simp [hnz]⟩)
  have met : ∀ row ∈ O, m_is_met row (List.filter (fun (y : Str) => (!decide (y ∈ z))) names) n = true ↔ sub (preL row n) z := fun row hr => by
    have hp := hO.2.2 row hr
    unfold m_is_met
    rw [decide_eq_true_iff, met_iff (hp.mem_iff.mpr hn) (fun y => decide (y ∈ List.filter (fun (y : Str) => (!decide (y ∈ z))) names)) hq]
    constructor
    · intro h y hy
      have h1 := h y (pre_mem.mp hy)
      have hyn : y ∈ names := hp.mem_iff.mp (List.mem_of_mem_take (pre_mem.mp hy))
      refine Classical.byContradiction fun hc => ?_
      have h2 := of_decide_eq_false h1
      exact h2 (List.mem_filter.mpr ⟨hyn, by simp [hc]⟩)
    · intro h y hy
      refine decide_eq_false fun hm => ?_
      have h1 := (List.mem_filter.mp hm).2
      simp [h y (pre_mem.mpr hy)] at h1
  have e : m_break (callLn names n z) O = decide (O.filter (fun (y : List Str) => m_is_met y (List.filter (fun (y : Str) => (!decide (y ∈ z))) names) n) = []) := rfl
  rw [e, decide_eq_false_iff_not, List.filter_eq_nil_iff]
  constructor
  · intro h
    have : ∃ row ∈ O, m_is_met row (List.filter (fun (y : Str) => (!decide (y ∈ z))) names) n = true := Classical.byContradiction fun hc => h fun row hr hm => hc ⟨row, hr, hm⟩
    obtain ⟨row, hr, hm⟩ := this
    obtain ⟨w, hw, hs⟩ := lots_below H hO (n := n) hr
    exact ⟨w, hw, fun y hy => (met row hr).mp hm y (hs y hy)⟩
  · rintro ⟨w, hw, hs⟩ h
    obtain ⟨row, hr, rfl⟩ := lots_pre hw
    exact h row hr ((met row hr).mpr hs)
theorem off_kept (hO : okRows names O) (hn : n ∈ names) {f : List Str} : m_break (offLn n f) O = false ↔ ∀ row ∈ O, ∃ y ∈ f, y ∈ preL row n := by
  have e : m_break (offLn n f) O = O.any fun y => m_is_met y (f ++ [n]) n := rfl
  rw [e, List.any_eq_false]
  refine forall_congr' fun row => forall_congr' fun hr => ?_
  rw [← keeps_iff ((hO.2.2 row hr).mem_iff.mpr hn)]
  have e2 : l_row_keeps row f n = !(m_is_met row (f ++ [n]) n) := rfl
  rw [e2]
  cases m_is_met row (f ++ [n]) n <;> simp
theorem keeps_alike (H : OkN names) (hR : okRows names R) (hO : okRows names O) : m_keeps (m_told names R) O = l_is_alike names R O := by
  have main : m_keeps (m_told names R) O = true ↔ l_is_alike names R O = true := by
    rw [alike_iff, told_eq H hR]
    have e : m_keeps (l_own_lines names R) O = true ↔ ∀ ln ∈ l_own_lines names R, m_break ln O = false := by
      unfold m_keeps
      rw [Bool.not_eq_true', List.any_eq_false]
      exact forall_congr' fun ln => forall_congr' fun _ => by cases m_break ln O <;> simp
    rw [e]
    constructor
    · intro h
      have hc : ∀ m ∈ names, ∀ z ∈ l_lots R m, ∃ w ∈ l_lots O m, sub w z := fun m hm z hz => (call_kept H hR hO hm hz).mp (h _ (own_mem.mpr (all_mem.mpr ⟨m, hm, .inl ⟨z, hz, rfl⟩⟩)))
      refine ⟨hc, fun m hm w hw => ?_⟩
      refine Classical.byContradiction fun hno => ?_
      have hHS : HS names R m ((less names m).filter fun (y : Str) => !decide (y ∈ w)) := ⟨List.filter_sublist, fun z hz => by
        have : ∃ y ∈ z, ¬ y ∈ w := Classical.byContradiction fun hc2 => hno ⟨z, hz, fun y hy => Classical.byContradiction fun hc3 => hc2 ⟨y, hy, hc3⟩⟩
        obtain ⟨y, hy, hyw⟩ := this
        have hym : ¬ y = m := fun e => lots_no hR hm hz (e ▸ hy)
        exact ⟨y, hy, List.mem_filter.mpr ⟨List.mem_filter.mpr ⟨can_sub (lots_can H hR hz) y hy, by simp [hym]⟩, by simp [hyw]⟩⟩⟩
      obtain ⟨f, hf, hs⟩ := offs_below H hR hm hHS
      have hk := (off_kept hO hm).mp (h _ (own_mem.mpr (all_mem.mpr ⟨m, hm, .inr ⟨f, hf, rfl⟩⟩)))
      obtain ⟨row, hr, rfl⟩ := lots_pre hw
      obtain ⟨y, hy, hyp⟩ := hk row hr
      have := (List.mem_filter.mp (hs y hy)).2
      simp [hyp] at this
    · rintro ⟨h1, h2⟩ ln hln
      obtain ⟨m, hm, h⟩ := all_mem.mp (own_mem.mp hln)
      rcases h with ⟨z, hz, rfl⟩ | ⟨f, hf, rfl⟩
      · exact (call_kept H hR hO hm hz).mpr (h1 m hm z hz)
      · refine (off_kept hO hm).mpr fun row hr => ?_
        obtain ⟨w, hw, hs⟩ := lots_below H hO (n := m) hr
        obtain ⟨z, hz, hs2⟩ := h2 m hm w hw
        obtain ⟨y, hy, hyf⟩ := ((lofs_mem H hR hm).mp hf).1.2 z hz
        exact ⟨y, hyf, hs y (hs2 y hy)⟩
  cases e1 : m_keeps (m_told names R) O <;> cases e2 : l_is_alike names R O <;> simp_all
theorem told_same (H : OkN names) (hR : okRows names R) (hO : okRows names O) : decide (m_told names O = m_told names R) = l_is_alike names R O := by
  have main : m_told names O = m_told names R ↔ l_is_alike names R O = true := by
    constructor
    · intro h
      rw [told_eq H hR, told_eq H hO] at h
      have key : ∀ {A B : List (List Str)}, okRows names A → okRows names B → l_own_lines names A = l_own_lines names B → ∀ m ∈ names, ∀ z ∈ l_lots A m, ∃ w ∈ l_lots B m, sub w z := fun hA hB e m hm z hz => by
        have h1 := own_mem.mpr (all_mem.mpr ⟨m, hm, .inl ⟨z, hz, rfl⟩⟩)
        rw [e] at h1
        obtain ⟨x, hx, h2⟩ := all_mem.mp (own_mem.mp h1)
        rcases h2 with ⟨w, hw, e2⟩ | ⟨f, hf, e2⟩
        · obtain ⟨rfl, rfl⟩ := call_inj H (lots_can H hA hz) (lots_can H hB hw) e2
          exact ⟨z, hw, fun _ h => h⟩
        · exact absurd e2 call_ne_off
      exact alike_iff.mpr ⟨key hR hO h.symm, key hO hR h⟩
    · intro h
      unfold m_told wholeL
      have e : ∀ (ns : List Str) (acc : List Ln), (∀ x ∈ ns, x ∈ names) → ns.foldl (stepW names O) acc = ns.foldl (stepW names R) acc := by
        intro ns
        induction ns with
        | nil => intro acc _; rfl
        | cons x ns ih =>
          intro acc hx
          rw [List.foldl_cons, List.foldl_cons]
          have e1 : stepW names O acc x = stepW names R acc x := by
            unfold stepW
            rw [lots_eq, lots_eq, lots_same H hR hO (hx x List.mem_cons_self) h]
          rw [e1]
          exact ih _ fun y hy => hx y (List.mem_cons_of_mem _ hy)
      rw [e names [] fun _ h => h]
  cases e2 : l_is_alike names R O with
  | true => exact decide_eq_true (main.mpr e2)
  | false => exact decide_eq_false fun z => by rw [main.mp z] at e2; cases e2
end
end Cp
namespace Cp
open PySem PySem.Spec PyProof.Rows L2
theorem dist_nd {s : List Str} (h : s.Nodup) : dist s = s.length := by
  unfold dist
  exact ((List.perm_ext_iff_of_nodup (ed_nodup _ s (Nat.le_refl _)) h).mpr fun a => List.mem_eraseDups).length_eq
theorem are_names_of {s : List Str} (h : ∀ n ∈ s, m_is_name n = true) (hd : s.Nodup) : m_are_names s = true := by
  unfold m_are_names
  have e : List.filter (fun (y3 : Str) => (!(m_is_name y3))) s = [] := List.filter_eq_nil_iff.mpr fun y hy => by simp [h y hy]
  rw [e, dist_nd hd]
  simp
theorem entries_of {s : List Str} (h : ∀ n ∈ s, m_is_name n = true) (hd : s.Nodup) (hne : s ≠ []) : m_are_entries s = true := by
  unfold m_are_entries
  rw [are_names_of h hd]
  simp [hne]
section
variable {names : List Str} {R O : List (List Str)} {n : Str}
theorem names_pw (H : OkN names) : names.Pairwise fun a b => leD a b = true := H.so ▸ srt_pw names
theorem asc_of (H : OkN names) {s : List Str} (h : can names s) : m_is_ascending s = true := by
  unfold m_is_ascending
  rw [are_names_of (fun n hn => H.ok n (h.subset hn)) (h.nodup H.nd), srt_of ((names_pw H).sublist h)]
  simp
theorem field_of (H : OkN names) {s : List Str} (h : can names s) (hne : s ≠ []) : m_is_field s names = true := by
  unfold m_is_field m_is_lot
  have e : List.filter (fun (y5 : Str) => (!decide (y5 ∈ names))) s = [] := List.filter_eq_nil_iff.mpr fun y hy => by simp [h.subset hy]
  rw [asc_of H h, e]
  simp [hne]
theorem call_lot (hR : okRows names R) (hn : n ∈ names) {z : List Str} (hz : z ∈ l_lots R n) : n ∈ (callLn names n z).lot := List.mem_filter.mpr ⟨hn, by simp [lots_no hR hn hz]⟩
theorem off_some (H : OkN names) (hR : okRows names R) (hn : n ∈ names) {f : List Str} (hf : HS names R n f) : f ≠ [] := fun z => by
  subst z
  cases hR0 : R with
  | nil => rw [hR0] at hR; exact absurd hR.1 (by simp)
  | cons r rs =>
    obtain ⟨z, hz, _⟩ := lots_below H hR (n := n) (r := r) (by rw [hR0]; exact List.mem_cons_self)
    obtain ⟨y, _, hy⟩ := hf.2 z hz
    cases hy
/-- what is known of every line -/
theorem line_facts (H : OkN names) (hR : okRows names R) {ln : Ln} (h : ln ∈ allL names R) : can names ln.lot ∧ ln.lot ≠ [] ∧ ln.who ∈ names ∧ ((ln.word = "call" ∧ ln.who ∈ ln.lot) ∨ (ln.word = "off" ∧ ¬ ln.who ∈ ln.lot ∧ ∀ row ∈ R, l_row_keeps row ln.lot ln.who = true)) := by
  obtain ⟨x, hx, h2⟩ := all_mem.mp h
  rcases h2 with ⟨z, hz, rfl⟩ | ⟨f, hf, rfl⟩
  · have h1 := call_lot hR hx hz
    exact ⟨can_filter _, (fun e => by rw [e] at h1; cases h1), hx, .inl ⟨rfl, h1⟩⟩
  · have h1 := ((lofs_mem H hR hx).mp hf).1
    refine ⟨less_can h1.1, off_some H hR hx h1, hx, .inr ⟨rfl, fun z => less_no (h1.1.subset z), fun row hr => ?_⟩⟩
    exact (keeps_iff ((hR.2.2 row hr).mem_iff.mpr hx)).mpr ((hits_lots H hR).mp h1.2 row hr)
theorem line_ok (H : OkN names) (hR : okRows names R) {ln : Ln} (h : ln ∈ allL names R) : m_is_line ln names = true := by
  obtain ⟨h1, h2, h3, h4⟩ := line_facts H hR h
  unfold m_is_line
  have e1 : decide (ln.word ∈ ([("call" : Str), ("off" : Str)] : List Str)) = true := decide_eq_true (by rcases h4 with ⟨e, _⟩ | ⟨e, _⟩ <;> rw [e] <;> simp)
  rw [e1, field_of H h1 h2, H.ok _ h3]
  have e3 : decide (ln.who ∈ names) = true := decide_eq_true h3
  rw [e3]
  have e4 : decide (ln.who ∈ ln.lot) = decide (ln.word = ("call" : Str)) := by
    rcases h4 with ⟨a, b⟩ | ⟨a, b, _⟩
    · rw [decide_eq_true b, decide_eq_true a]
    · rw [decide_eq_false b, decide_eq_false (by rw [a]; decide)]
  rw [e4]
  simp
/-! ### all rows -/
theorem stepR_mem {names : List Str} {q r : List Str} {acc : List (List Str)} : r ∈ stepR names acc q ↔ r ∈ acc ∨ ∃ y ∈ names, ¬ y ∈ q ∧ r = q ++ [y] := by
  unfold stepR
  rw [List.mem_append, List.mem_map]
  constructor
  · rintro (h | ⟨y, hy, rfl⟩)
    · exact .inl h
    · obtain ⟨h1, h2⟩ := List.mem_filter.mp hy
      exact .inr ⟨y, h1, by simpa using h2, rfl⟩
  · rintro (h | ⟨y, h1, h2, rfl⟩)
    · exact .inl h
    · exact .inr ⟨y, List.mem_filter.mpr ⟨h1, by simp [h2]⟩, rfl⟩
theorem nextR_mem {names : List Str} (found : List (List Str)) : ∀ (acc : List (List Str)) (r : List Str), r ∈ found.foldl (stepR names) acc ↔ r ∈ acc ∨ ∃ q ∈ found, ∃ y ∈ names, ¬ y ∈ q ∧ r = q ++ [y] := by
  induction found with
  | nil => intro acc r; simp
  | cons q found ih =>
    intro acc r
    rw [List.foldl_cons, ih, stepR_mem]
    simp only [List.mem_cons, exists_eq_or_imp]
    exact or_assoc
theorem iterR_mem {names : List Str} : ∀ (i : Nat) (r : List Str), r ∈ iterR names i ↔ r.Nodup ∧ sub r names ∧ r.length = i
  | 0, r => by
    unfold iterR
    rw [List.mem_singleton]
    constructor
    · rintro rfl; exact ⟨List.nodup_nil, fun _ h => (by cases h), rfl⟩
    · rintro ⟨_, _, h⟩; exact List.eq_nil_of_length_eq_zero h
  | i + 1, r => by
    unfold iterR nextR
    rw [nextR_mem]
    constructor
    · rintro (h | ⟨q, hq, y, hy, hyq, rfl⟩)
      · cases h
      · obtain ⟨h1, h2, h3⟩ := (iterR_mem i q).mp hq
        refine ⟨?_, fun x hx => ?_, by rw [List.length_append, h3]; rfl⟩
        · rw [List.nodup_append]
          exact ⟨h1, by simp, fun a ha b hb e => by rw [List.mem_singleton.mp hb] at e; exact hyq (e ▸ ha)⟩
        · rcases List.mem_append.mp hx with z | z
          · exact h2 x z
          · rw [List.mem_singleton.mp z]; exact hy
    · rintro ⟨h1, h2, h3⟩
      have hne : r ≠ [] := fun e => by rw [e] at h3; cases h3
      have e := (List.dropLast_concat_getLast hne).symm
      refine .inr ⟨r.dropLast, (iterR_mem i _).mpr ⟨h1.sublist (List.dropLast_sublist r), fun x hx => h2 x ((List.dropLast_sublist r).subset hx), by rw [List.length_dropLast, h3]; rfl⟩, r.getLast hne, h2 _ (List.getLast_mem hne), fun hm => ?_, e⟩
      rw [e, List.nodup_append] at h1
      exact h1.2.2 _ hm _ (List.mem_singleton.mpr rfl) rfl
theorem allrows_mem (H : OkN names) {r : List Str} : r ∈ l_all_rows names ↔ r.Perm names := by
  unfold l_all_rows
  rw [iterR_mem]
  constructor
  · rintro ⟨h1, h2, h3⟩
    have e := srt_can H.nd H.so h1 h2
    have hl : (names.filter fun (y : Str) => decide (y ∈ r)).length = names.length := by rw [← e, srt_len, h3]
    have e2 : (names.filter fun (y : Str) => decide (y ∈ r)) = names := List.filter_sublist.eq_of_length hl
    rw [e2] at e
    exact (srt_perm r).symm.trans (by rw [e])
  · intro h
    exact ⟨h.nodup_iff.mpr H.nd, fun x hx => h.mem_iff.mp hx, h.length_eq⟩
theorem opre_ok (H : OkN names) (hR : okRows names R) (h5 : R.length ≤ 5) : OPre names R := by
  refine ⟨H, hR.1, h5, hR.2.2, fun ln hl => ?_, ?_, fun r hr => ?_⟩
  · obtain ⟨h1, _, h3, _⟩ := line_facts H hR (own_mem.mp hl)
    exact ⟨Nat.le_trans h1.length_le (Nat.le_trans H.hi (by decide)), fun row hr => ((allrows_mem H).mp hr).mem_iff.mpr h3⟩
  · cases hR0 : R with
    | nil => rw [hR0] at hR; exact absurd hR.1 (by simp)
    | cons r rs =>
      have hr : r ∈ R := by rw [hR0]; exact List.mem_cons_self
      rw [← hR0]
      have hm : r ∈ l_kept_rows names (l_own_lines names R) [] := by
        unfold l_kept_rows
        refine List.mem_filter.mpr ⟨(allrows_mem H).mpr (hR.2.2 r hr), ?_⟩
        unfold keepT
        rw [decide_eq_true_iff, List.map_eq_nil_iff, List.filter_eq_nil_iff]
        intro y hy
        unfold l_offs at hy
        obtain ⟨ln, hl, rfl⟩ := List.mem_map.mp hy
        obtain ⟨hl1, hl2⟩ := List.mem_filter.mp hl
        obtain ⟨_, _, _, h4⟩ := line_facts H hR (own_mem.mp hl1)
        rcases h4 with ⟨e, _⟩ | ⟨_, _, hk⟩
        · have := of_decide_eq_true hl2
          rw [e] at this
          exact absurd this (by decide)
        · simp [hk r hr]
      intro e
      rw [e] at hm
      cases hm
  · unfold l_kept_rows at hr
    exact (allrows_mem H).mp (List.mem_filter.mp hr).1
theorem okbr_ok (H : OkN names) (hR : okRows names R) (hO : okRows names O) : ∀ ln ∈ m_told names R, okBr ln O := fun ln hl => by
  rw [told_eq H hR] at hl
  obtain ⟨h1, h2, h3, _⟩ := line_facts H hR (own_mem.mp hl)
  refine ⟨Nat.le_trans h1.length_le (Nat.le_trans H.hi (by decide)), fun row hr => ⟨(hO.2.2 row hr).mem_iff.mpr h3, ?_⟩⟩
  cases hl0 : ln.lot with
  | nil => exact absurd hl0 h2
  | cons y ys =>
    have hy : y ∈ ln.lot := by rw [hl0]; exact List.mem_cons_self
    rw [← hl0]
    exact List.length_pos_of_mem (List.mem_filter.mpr ⟨(hO.2.2 row hr).mem_iff.mpr (h1.subset hy), decide_eq_true hy⟩)
theorem some_ok (H : OkN names) (hR : okRows names R) : m_told names R ≠ [] := by
  rw [told_eq H hR]
  intro e
  cases hn0 : names with
  | nil => have := H.lo; rw [hn0] at this; cases this
  | cons x xs =>
    cases hR0 : R with
    | nil => rw [hR0] at hR; exact absurd hR.1 (by simp)
    | cons r rs =>
      have hx : x ∈ names := by rw [hn0]; exact List.mem_cons_self
      obtain ⟨z, hz, _⟩ := lots_below H hR (n := x) (r := r) (by rw [hR0]; exact List.mem_cons_self)
      have hm := own_mem.mpr (all_mem.mpr ⟨x, hx, .inl ⟨z, hz, rfl⟩⟩)
      rw [e] at hm
      cases hm
theorem ent_ok (H : OkN names) {ps : List Str} (h : ps.Perm names) : m_are_entries ps = true :=
  entries_of (fun n hn => H.ok n (h.mem_iff.mp hn)) (h.nodup_iff.mpr H.nd) fun e => by
    have h1 := h.length_eq
    have h2 := H.lo
    rw [e] at h1
    simp at h1
    omega
theorem rows_ok (H : OkN names) {ps : List Str} (h : ps.Perm names) (hR : okRows names R) : m_are_rows R ps = true := by
  unfold m_are_rows
  rw [Bool.true_and, decide_eq_true_iff, List.filter_eq_nil_iff]
  intro r hr
  have hp := hR.2.2 r hr
  have e : m_is_row r ps = true := by
    unfold m_is_row
    rw [are_names_of (fun n hn => H.ok n (hp.mem_iff.mp hn)) (hp.nodup_iff.mpr H.nd), srt_eq (hp.trans h.symm)]
    simp
  simp [e]
theorem sum_le (k : Nat) : ∀ L : List (List Str), (∀ z ∈ L, z.length ≤ k) → (L.map List.length).sum ≤ L.length * k
  | [], _ => by simp
  | z :: L, h => by
    rw [List.map_cons, List.sum_cons, List.length_cons, Nat.succ_mul]
    have h1 := sum_le k L fun w hw => h w (List.mem_cons_of_mem _ hw)
    have h2 := h z List.mem_cons_self
    omega
theorem wpre_ok (H : OkN names) (hR : okRows names R) : WPre names R := by
  refine ⟨H.hi, Nat.le_trans hR.2.1 (by decide), all_in hR, fun n hn => ?_, ent_ok H (List.Perm.refl _), fun ln hl => ?_⟩
  · rw [lots_eq]
    refine ⟨fun lot hl => asc_of H (lots_can H hR hl), names_in_len H hR, ?_⟩
    have h1 := sum_le 4 (l_lots R n) fun z hz => Nat.le_trans (lots_can H hR hz).length_le H.hi
    have h2 := lots_len R n
    have h3 := hR.2.1
    omega
  · rw [whole_eq H hR] at hl
    exact line_ok H hR hl
end
theorem mathOK : MathOK where
  wpre _ _ H hR := wpre_ok H hR
  told _ _ H hR := told_eq H hR
  keeps _ _ _ H hR hO := keeps_alike H hR hO
  same _ _ _ H hR hO := told_same H hR hO
  refl _ _ _ _ := alike_refl
  rev _ _ _ _ := alike_rev
  opre _ _ H hR h := opre_ok H hR h
  okbr _ _ _ H hR hO := okbr_ok H hR hO
  dupl _ _ H hR := own_dupl H hR
  line _ _ H hR ln hl := line_ok H hR (own_mem.mp hl)
  some _ _ H hR := some_ok H hR
  ent _ _ H h := ent_ok H h
  rows _ _ _ H h hR := rows_ok H h hR
  one := by
    have e : allL ["a", "b"] [["a", "b"]] = [⟨"call", ["a", "b"], "a"⟩, ⟨"call", ["b"], "b"⟩, ⟨"off", ["a"], "b"⟩] := by decide +kernel
    rw [told_eq ab_ok ab_rows, own_eq, e]
    exact srt_of (by decide +kernel)
  two := by decide +kernel
end Cp
namespace Cp
open PySem PySem.Spec PyProof.Rows L2
theorem facts {P : Program} {w : World} {K : PySem.W.Frag} {h : Heap} {mg : Str → Option Value} {f : Addr} (X : K.In h) (G : h.Ns mainGlobals mg) (hfa : mg ("law" : Str) = some (.ref f)) (c : SaysM K) :
    ∃ fd : FuncData, (∀ (s : Shared) (v : Value), BindsTo s fd ⟨[v], []⟩ [("_law_script", v)]) ∧ ∀ base : Heap, K.In base → base.Ns mainGlobals mg → FnOk P w K mg base CX0 13 f fd ["_law_script"] (spLaw K) := by
  have T : Top K mg := ⟨⟨h, X, G⟩, c⟩
  have M : MathOK := mathOK
  obtain ⟨fd, F, g⟩ := T.fn 58 rfl rfl rfl
  have e : f = He.ga K "law" := by
    have z := hfa.symm.trans g
    cases z
    rfl
  subst e
  have b := FunD.bindsA (ps := ["_law_script"]) F fun _ _ _ _ _ _ us hl => match us, hl with | [_], _ => rfl
  refine ⟨fd, fun s v => b s [v] rfl, fun base _ _ => ?_⟩
  have h_law_purse := w_law_purse (P := P) (w := w) (base := base) T 
  have h_law_purses := w_law_purses (P := P) (w := w) (base := base) T h_law_purse
  have h_law_mixed := w_law_mixed (P := P) (w := w) (base := base) T 
  have h_law_draw := w_law_draw (P := P) (w := w) (base := base) T h_law_mixed
  have h_law_word := w_law_word (P := P) (w := w) (base := base) T h_law_draw
  have h_law_shuffledS := w_law_shuffled (P := P) (w := w) (base := base) Str T h_law_draw
  have h_law_names := w_law_names (P := P) (w := w) (base := base) T h_law_word h_law_shuffledS
  have h_law_one_ofI := w_law_one_of (P := P) (w := w) (base := base) Int T h_law_draw
  have h_law_some_names := w_law_some_names (P := P) (w := w) (base := base) T h_law_names h_law_one_ofI h_law_draw
  have h_law_rows_of := w_law_rows_of (P := P) (w := w) (base := base) T h_law_shuffledS h_law_draw
  have h_is_name := w_is_name (P := P) (w := w) (base := base) T 
  have h_are_names := w_are_names (P := P) (w := w) (base := base) T h_is_name
  have h_are_entries := w_are_entries (P := P) (w := w) (base := base) T h_are_names
  have h_check_entries := w_check_entries (P := P) (w := w) (base := base) T h_are_entries
  have h_is_row := w_is_row (P := P) (w := w) (base := base) T h_are_names
  have h_are_rows := w_are_rows (P := P) (w := w) (base := base) T h_is_row
  have h_spots_of := w_spots_of (P := P) (w := w) (base := base) T 
  have h_Panel_init := w_Panel_init (P := P) (w := w) (base := base) T h_check_entries h_are_rows h_spots_of
  have h_check_panel := w_check_panel (P := P) (w := w) (base := base) T 
  have h_Panel_entries := w_Panel_entries (P := P) (w := w) (base := base) T 
  have h_is_part := w_is_part (P := P) (w := w) (base := base) T 
  have h_least_of := w_least_of (P := P) (w := w) (base := base) T h_is_part
  have h_lots_in := w_lots_in (P := P) (w := w) (base := base) T h_least_of
  have h_Panel_rows := w_Panel_rows (P := P) (w := w) (base := base) T 
  have h_all_lots := w_all_lots (P := P) (w := w) (base := base) T h_lots_in h_Panel_entries h_Panel_rows
  have h_lots_of := w_lots_of (P := P) (w := w) (base := base) T h_check_panel h_all_lots
  have h_is_ascending := w_is_ascending (P := P) (w := w) (base := base) T h_are_names
  have h_doubled := w_doubled (P := P) (w := w) (base := base) T 
  have h_names_in := w_names_in (P := P) (w := w) (base := base) T 
  have h_mark_of := w_mark_of (P := P) (w := w) (base := base) T h_doubled
  have h_meets_all := w_meets_all (P := P) (w := w) (base := base) T 
  have h_is_least_mark := w_is_least_mark (P := P) (w := w) (base := base) T h_doubled h_meets_all
  have h_meeting := w_meeting (P := P) (w := w) (base := base) T h_doubled h_names_in h_mark_of h_is_least_mark
  have h_least_meeting := w_least_meeting (P := P) (w := w) (base := base) T h_is_ascending h_meeting
  have h_is_lot := w_is_lot (P := P) (w := w) (base := base) T h_is_ascending
  have h_is_field := w_is_field (P := P) (w := w) (base := base) T h_is_lot
  have h_is_line := w_is_line (P := P) (w := w) (base := base) T h_is_name h_is_field
  have h_copied := w_copied (P := P) (w := w) (base := base) T 
  have h_Book_init := w_Book_init (P := P) (w := w) (base := base) T h_are_entries h_is_line h_copied
  have h_whole_book := w_whole_book (P := P) (w := w) (base := base) T h_Panel_entries h_lots_of h_least_meeting h_Book_init
  have h_book_of := w_book_of (P := P) (w := w) (base := base) T h_check_panel h_whole_book
  have h_law_is_part := w_law_is_part (P := P) (w := w) (base := base) T 
  have h_law_least := w_law_least (P := P) (w := w) (base := base) T h_law_is_part
  have h_law_lots := w_law_lots (P := P) (w := w) (base := base) T h_law_least
  have h_law_fields := w_law_fields (P := P) (w := w) (base := base) T 
  have h_law_meets := w_law_meets (P := P) (w := w) (base := base) T 
  have h_law_row_keeps := w_law_row_keeps (P := P) (w := w) (base := base) T h_law_meets
  have h_law_least_offs := w_law_least_offs (P := P) (w := w) (base := base) T h_law_fields h_law_least h_law_row_keeps
  have h_law_own_lines := w_law_own_lines (P := P) (w := w) (base := base) T h_law_lots h_law_least_offs
  have h_copied2 := w_copied2 (P := P) (w := w) (base := base) T 
  have h_Book_lines2 := w_Book_lines2 (P := P) (w := w) (base := base) T h_copied2
  have h_Book_lines := w_Book_lines (P := P) (w := w) (base := base) h_Book_lines2
  have h_Book_entries := w_Book_entries (P := P) (w := w) (base := base) T 
  have h_Book_eq := w_Book_eq (P := P) (w := w) (base := base) T 
  have h_law_all_rows := w_law_all_rows (P := P) (w := w) (base := base) T 
  have h_law_offs := w_law_offs (P := P) (w := w) (base := base) T 
  have h_law_kept_rows := w_law_kept_rows (P := P) (w := w) (base := base) T h_law_all_rows h_law_offs h_law_row_keeps
  have h_law_shuffledL := w_law_shuffled (P := P) (w := w) (base := base) (List Str) T h_law_draw
  have h_law_one_ofL := w_law_one_of (P := P) (w := w) (base := base) (List Str) T h_law_draw
  have h_law_other_rows := w_law_other_rows (P := P) (w := w) (base := base) T h_law_draw h_law_rows_of h_law_kept_rows h_law_own_lines h_law_shuffledL h_law_one_ofL
  have h_law_is_within := w_law_is_within (P := P) (w := w) (base := base) T h_law_is_part h_law_lots
  have h_law_is_alike := w_law_is_alike (P := P) (w := w) (base := base) T h_law_is_within
  have h_check_book := w_check_book (P := P) (w := w) (base := base) T 
  have h_check_two := w_check_two (P := P) (w := w) (base := base) T h_check_book h_check_panel h_Panel_entries
  have h_is_met := w_is_met (P := P) (w := w) (base := base) T 
  have h_break_of := w_break_of (P := P) (w := w) (base := base) T h_copied h_is_met
  have h_first_break := w_first_break (P := P) (w := w) (base := base) T h_break_of h_Panel_rows
  have h_keeps := w_keeps (P := P) (w := w) (base := base) T h_check_two h_first_break
  have h_law_right := w_law_right (P := P) (w := w) (base := base) M T h_law_some_names h_law_rows_of h_law_draw h_law_shuffledS h_Panel_init h_book_of h_law_own_lines h_Book_lines h_Book_lines2 h_Book_entries h_Book_eq h_Book_init h_law_other_rows h_law_is_alike h_keeps h_Panel_rows
  exact ok_law M T F h_law_purses h_law_right h_Panel_init h_book_of h_Book_lines
end Cp
open PySem PySem.W PySem.Calls PyProof.Rows
theorem PySem.Challenge.cw_cardpanel_k71_whole_books_of_panels_holds : PySem.Challenge.rw_cardpanel_k71_whole_books_of_panels.Holds := by
  w_on; o_law
  refine HandSHeadRun.head_any (r := OpenLaw.row PySem.Challenge.rw_cardpanel_k71_whole_books_of_panels) (q := view (OpenLaw.row PySem.Challenge.rw_cardpanel_k71_whole_books_of_panels).prog [79]) (H := Cp.hk) (ob := Cp.ob) (M := 6000) (loose := Cp.names) (d := HandSHeadRun.topDef (OpenLaw.row PySem.Challenge.rw_cardpanel_k71_whole_books_of_panels).prog 79) (kwd := []) Cp.ob_eq
    (by kernel_rfl) (fun s => by kernel_rfl) Cp.run (by kernel_rfl) (by kernel_rfl) (by kernel_rfl) (by rfl) (by first | assumption | decide +kernel) (by decide +kernel) ⟨rfl, rfl, rfl, rfl, rfl, by decide +kernel⟩ ?hw ?hc
  case hw => w_witness2
  case hc =>
    refine L2.walk_ofE (l := PySem.Challenge.rw_cardpanel_k71_whole_books_of_panels) (n := 63) (k := 13) (x := "_law_script") (CX := L2.CX0) rfl (by decide) (by kernel_rfl) ⟨rfl, by decide, by decide⟩ ?F (fun _ _ _ _ z => z)
    intro w mg fa h Y G hmg0
    obtain ⟨K, KX, c⟩ := Y
    have hmg : mg ("law" : PySem.Str) = some (.ref fa) := by
      have e : (HandSHeadRun.topDef (OpenLaw.row PySem.Challenge.rw_cardpanel_k71_whole_books_of_panels).prog 79).name = ("law" : PySem.Str) := by kernel_rfl
      rw [← e]
      exact hmg0
    obtain ⟨fd, hb, hF⟩ := Cp.facts (P := (PySem.Challenge.rw_cardpanel_k71_whole_books_of_panels).prog) (w := w) KX G hmg c
    exact ⟨K, fd, Cp.spLaw K, KX, hb, fun H a ns hl _ hS => ⟨a, ns, rfl, hS, fun _ => rfl⟩, hF⟩
