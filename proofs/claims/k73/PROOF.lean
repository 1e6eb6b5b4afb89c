import PyProof.Rows.All
import Wide.All
import OpenK.AllK
import Wide.FinOn
import KE.KStateDown
import HandS.ForMost
import HandS.Codes
import HandS.Defaults
import HandS.HeadHook1
import HandS.HeadHook2
import HandS.IsInst
import HandS.More
import HandS.DictComp
import HandS.Star
import HandS.Style
import HandS.TupAny
import HandS.TupLen
import HandS.Walk
import HandS.Small
import HandS.Conv
import KE.KEqNest
import KE.KSuper
import KE.GoesMore
import KE.GoesEnum
import KE.KDictDisplayH
import HandS.HeadHook3
import HandS.Head2
import HandS.Head0
import HandS.Head1
import PyProof.NeKinds
import HandS.NoneIn
import HandS.HeadEnd
import PySem.Challenge.RW_worldsalone_k73_whole_bare_steps_on_copi
set_option Elab.async false
set_option linter.all false
set_option maxRecDepth 100000
set_option maxHeartbeats 4000000
namespace W73
open PySem PySem.Spec PyProof.Rows L2
open C8 (Cal Met Mak pe_c pe_mk pe_mt pe_mt0 pe_gc pss_cut tCut)
def top (i : Nat) : Stmt := PySem.Challenge.pw_worldsalone_k73_whole_bare_steps_on_copi.main.body.getD i (.Pass ⟨0, 0, 0, 0⟩)
abbrev s_is_stop : Stmt := top 9
abbrev s_stop_words : Stmt := top 10
abbrev s_stop_word : Stmt := top 11
abbrev s_doubtful_places : Stmt := top 12
abbrev s_copied_words : Stmt := top 13
abbrev s_View_init : Stmt := inClass (top 15) 0
abbrev s_View_word_at : Stmt := inClass (top 15) 1
abbrev s_BoxView_init : Stmt := inClass (top 16) 0
abbrev s_BoxView_spot_of : Stmt := inClass (top 16) 1
abbrev s_Draft_init : Stmt := inClass (top 17) 0
abbrev s_Draft_value : Stmt := inClass (top 17) 1
abbrev s_Draft_assign : Stmt := inClass (top 17) 2
abbrev s_Draft_taken : Stmt := inClass (top 17) 3
abbrev s_Draft_touch : Stmt := inClass (top 17) 4
abbrev s_Draft_settle : Stmt := inClass (top 17) 5
abbrev s_Draft_frames : Stmt := inClass (top 17) 6
abbrev s_carry_out : Stmt := top 18
abbrev s_tried : Stmt := top 19
abbrev s_next_pc : Stmt := top 20
abbrev s_are_words : Stmt := top 23
abbrev s_are_frames : Stmt := top 24
abbrev s_are_specials : Stmt := top 25
abbrev s_are_by_ports : Stmt := top 26
abbrev s_are_outs : Stmt := top 27
abbrev s_Box_init : Stmt := inClass (top 29) 0
abbrev s_Box_frames : Stmt := inClass (top 29) 2
abbrev s_Box_specials : Stmt := inClass (top 29) 3
abbrev s_Box_answers : Stmt := inClass (top 29) 4
abbrev s_Box_outs : Stmt := inClass (top 29) 5
abbrev s_Box_bare : Stmt := inClass (top 29) 11
abbrev s_is_name : Stmt := top 38
abbrev s_is_count : Stmt := top 39
abbrev s_is_known : Stmt := top 40
abbrev s_wrong_names : Stmt := top 41
abbrev s_wrong_primitives : Stmt := top 42
abbrev s_wrong_causes : Stmt := top 43
abbrev s_wrong_ref : Stmt := top 44
abbrev s_wrong_args : Stmt := top 45
abbrev s_names_for : Stmt := top 46
abbrev s_wrong_member : Stmt := top 47
abbrev s_wrong_row : Stmt := top 48
abbrev s_wrong_rows : Stmt := top 49
abbrev s_wrong_instruction : Stmt := top 50
abbrev s_wrong_instructions : Stmt := top 51
abbrev s_lot_of : Stmt := top 52
abbrev s_wrong_book : Stmt := top 53
abbrev s_Book_init : Stmt := inClass (top 54) 0
abbrev s_Book_registers : Stmt := inClass (top 54) 1
abbrev s_Book_primitives : Stmt := inClass (top 54) 2
abbrev s_Book_causes : Stmt := inClass (top 54) 3
abbrev s_Book_ports : Stmt := inClass (top 54) 4
abbrev s_Book_instructions : Stmt := inClass (top 54) 5
abbrev s_Book_instruction : Stmt := inClass (top 54) 7
abbrev s_is_below : Stmt := top 57
abbrev s_are_below : Stmt := top 58
abbrev s_is_table : Stmt := top 59
abbrev s_are_tables : Stmt := top 60
abbrev s_is_entry : Stmt := top 61
abbrev s_is_code : Stmt := top 62
abbrev s_wrong_part : Stmt := top 63
abbrev s_Meaning_init : Stmt := inClass (top 64) 0
abbrev s_Meaning_book : Stmt := inClass (top 64) 1
abbrev s_Meaning_places : Stmt := inClass (top 64) 2
abbrev s_Meaning_words : Stmt := inClass (top 64) 4
abbrev s_Meaning_is_word : Stmt := inClass (top 64) 5
abbrev s_Meaning_page : Stmt := inClass (top 64) 6
abbrev s_Meaning_place : Stmt := inClass (top 64) 7
abbrev s_Meaning_next : Stmt := inClass (top 64) 8
abbrev s_Meaning_apply : Stmt := inClass (top 64) 9
abbrev s_Meaning_code_of : Stmt := inClass (top 64) 11
abbrev s_law_source : Stmt := top 66
abbrev s_law_pick : Stmt := top 67
abbrev s_law_menu : Stmt := top 69
abbrev s_law_ref : Stmt := top 70
abbrev s_law_drawn_row : Stmt := top 71
abbrev s_law_drawn_rows : Stmt := top 72
abbrev s_law_with_meaning : Stmt := top 73
abbrev s_law_house : Stmt := top 74
abbrev s_law_eased : Stmt := top 75
abbrev s_law_any_house : Stmt := top 76
abbrev s_law_box : Stmt := top 77
abbrev s_law_parts : Stmt := top 78
abbrev s_law : Stmt := top 79
/-! what the top leaves of a def, a method, a class -/
structure TD (K : PySem.W.Frag) (mg : Str → Option Value) (x : Str) (st : Stmt) : Prop where
  ex : ∃ (f : Addr) (fd : FuncData), FunD K x x (defArgs st) (defBody st) (defScope st) [] [] f fd ∧ mg x = some (.ref f)
structure TM (K : PySem.W.Frag) (C : Addr) (m qual : Str) (st : Stmt) : Prop where
  ex : ∃ (f : Addr) (fd : FuncData), FunD K m qual (defArgs st) (defBody st) (defScope st) [] [] f fd ∧ Cls K C ∧ Meth K C m f
structure TK (K : PySem.W.Frag) (mg : Str → Option Value) (x : Str) (C : Addr) (qual : Str) (st : Stmt) : Prop where
  ex : ∃ (f : Addr) (fd : FuncData), FunD K "__init__" qual (defArgs st) (defBody st) (defScope st) [] [] f fd ∧ Mk K C f ∧ mg x = some (.ref C)
/-- how its parameters are filled -/
abbrev BD (x qual : Str) (st : Stmt) (ps : List Str) : Prop := ∀ (kV doc pm : Value) (an : Option Addr) (cdv ct : Value) (us : List Value), us.length = ps.length →
  bindArgs (PySem.W.fnOf x qual (defArgs st) (defBody st) (defScope st) .none kV doc pm an cdv ct) ⟨us, []⟩ = pure (ps.zip us)
/-- the body's proof that a maker asks -/
abbrev BodyOk (P : Program) (w : World) (K : PySem.W.Frag) (mg : Str → Option Value) (base : Heap) (k : Nat) (N : List Str) (qual : Str) (st : Stmt) (f : Addr) (sp : Sp) : Prop :=
  ∀ (cdv : Value) (A : Around) (outer : List Env) (s : Shared) (H : Hp) (vs : List V) (Q : VK) (E : XK), Room k (A.deeper (envOfC qual (defScope st) s.heap.objs.size f cdv)) → sp vs H Q E →
      ∃ t, PSs (cxOf C8.CX0 P w K mg base N qual (defScope st) f cdv A outer s H E).nox (defBody st) t ∧ t { nx := fun _ H' => Q .non H', rt := Q } (start N vs) H
section
variable {P : Program} {w : World} {K : PySem.W.Frag} {mg : Str → Option Value} {base : Heap}
theorem cal_mk {x : Str} {st : Stmt} {N ps : List Str} {k : Nat} {sp : Sp} (T : TD K mg x st) (b : BD x x st ps) (S : FnScope N ps (defScope st)) (len : ∀ vs H Q E, sp vs H Q E → vs.length = ps.length)
    (hb : ∀ f, BodyOk P w K mg base k N x st f sp) : Cal P w K mg base (k + 1) x sp [] := by
  obtain ⟨f, fd, F, hm⟩ := T.ex
  refine ⟨f, fd, ps, [], F.ok S len fun cdv A outer s H vs Q E hr h => ?_, hm, F.kp, F.bindsN b, .nil⟩
  obtain ⟨t, ht, h2⟩ := hb f cdv A outer s H vs Q E hr h
  exact ⟨t, ht.nox, h2⟩
theorem met_mk {m qual : Str} {C : Addr} {st : Stmt} {N ps : List Str} {k : Nat} {sp : Sp} (T : TM K C m qual st) (b : BD m qual st ps) (S : FnScope N ps (defScope st)) (len : ∀ vs H Q E, sp vs H Q E → vs.length = ps.length)
    (hb : ∀ f, BodyOk P w K mg base k N qual st f sp) : Met P w K mg base (k + 1) C m sp [] := by
  obtain ⟨f, fd, F, hc, hm⟩ := T.ex
  refine ⟨f, fd, ps, [], hc, hm, F.ok S len fun cdv A outer s H vs Q E hr h => ?_, F.bindsN b, .nil⟩
  obtain ⟨t, ht, h2⟩ := hb f cdv A outer s H vs Q E hr h
  exact ⟨t, ht.nox, h2⟩
theorem mak_mk {x qual : Str} {C : Addr} {st : Stmt} {N ps : List Str} {k : Nat} {sp : Sp} (T : TK K mg x C qual st) (b : BD "__init__" qual st ps) (S : FnScope N ps (defScope st)) (len : ∀ vs H Q E, sp vs H Q E → vs.length = ps.length)
    (hb : ∀ f, BodyOk P w K mg base k N qual st f sp) : Mak P w K mg base (k + 1) x C sp [] := by
  obtain ⟨f, fd, F, hM, hm⟩ := T.ex
  refine ⟨f, fd, ps, [], hM, F.ok S len fun cdv A outer s H vs Q E hr h => ?_, hm, F.bindsN b, .nil⟩
  obtain ⟨t, ht, h2⟩ := hb f cdv A outer s H vs Q E hr h
  exact ⟨t, ht.nox, h2⟩
end
abbrev C_View (K : PySem.W.Frag) : Addr := He.ga K "View"
abbrev C_BoxView (K : PySem.W.Frag) : Addr := He.ga K "BoxView"
abbrev C_Draft (K : PySem.W.Frag) : Addr := He.ga K "Draft"
abbrev C_Box (K : PySem.W.Frag) : Addr := He.ga K "Box"
abbrev C_Book (K : PySem.W.Frag) : Addr := He.ga K "Book"
abbrev C_Meaning (K : PySem.W.Frag) : Addr := He.ga K "Meaning"
/-- all facts of the top that the proofs lean on -/
structure Tx (K : PySem.W.Frag) (mg : Str → Option Value) : Prop where
  b_isinstance : mg "isinstance" = none
  b_len : mg "len" = none
  b_list : mg "list" = none
  b_tuple : mg "tuple" = none
  b_dict : mg "dict" = none
  b_all : mg "all" = none
  b_max : mg "max" = none
  b_int : mg "int" = none
  b_abs : mg "abs" = none
  b_repr : mg "repr" = none
  b_range : mg "range" = none
  b_enumerate : mg "enumerate" = none
  b_str : mg "str" = none
  b_bool : mg "bool" = none
  b_super : mg "super" = none
  f_is_stop : TD K mg "is_stop" s_is_stop
  f_stop_words : TD K mg "stop_words" s_stop_words
  f_stop_word : TD K mg "stop_word" s_stop_word
  f_doubtful_places : TD K mg "doubtful_places" s_doubtful_places
  f_copied_words : TD K mg "copied_words" s_copied_words
  f_View_init : TK K mg "View" (C_View K) "View.__init__" s_View_init
  f_View_word_at : TM K (C_View K) "word_at" "View.word_at" s_View_word_at
  f_BoxView_spot_of : TM K (C_BoxView K) "spot_of" "BoxView.spot_of" s_BoxView_spot_of
  f_Draft_init : TK K mg "Draft" (C_Draft K) "Draft.__init__" s_Draft_init
  f_Draft_value : TM K (C_Draft K) "value" "Draft.value" s_Draft_value
  f_Draft_assign : TM K (C_Draft K) "assign" "Draft.assign" s_Draft_assign
  f_Draft_taken : TM K (C_Draft K) "taken" "Draft.taken" s_Draft_taken
  f_Draft_touch : TM K (C_Draft K) "touch" "Draft.touch" s_Draft_touch
  f_Draft_settle : TM K (C_Draft K) "settle" "Draft.settle" s_Draft_settle
  f_Draft_frames : TM K (C_Draft K) "frames" "Draft.frames" s_Draft_frames
  f_carry_out : TD K mg "carry_out" s_carry_out
  f_tried : TD K mg "tried" s_tried
  f_next_pc : TD K mg "next_pc" s_next_pc
  f_are_words : TD K mg "are_words" s_are_words
  f_are_frames : TD K mg "are_frames" s_are_frames
  f_are_specials : TD K mg "are_specials" s_are_specials
  f_are_by_ports : TD K mg "are_by_ports" s_are_by_ports
  f_are_outs : TD K mg "are_outs" s_are_outs
  f_Box_init : TK K mg "Box" (C_Box K) "Box.__init__" s_Box_init
  f_Box_frames : TM K (C_Box K) "frames" "Box.frames" s_Box_frames
  f_Box_specials : TM K (C_Box K) "specials" "Box.specials" s_Box_specials
  f_Box_answers : TM K (C_Box K) "answers" "Box.answers" s_Box_answers
  f_Box_outs : TM K (C_Box K) "outs" "Box.outs" s_Box_outs
  f_Box_bare : TM K (C_Box K) "bare" "Box.bare" s_Box_bare
  f_is_name : TD K mg "is_name" s_is_name
  f_is_count : TD K mg "is_count" s_is_count
  f_is_known : TD K mg "is_known" s_is_known
  f_wrong_names : TD K mg "wrong_names" s_wrong_names
  f_wrong_primitives : TD K mg "wrong_primitives" s_wrong_primitives
  f_wrong_causes : TD K mg "wrong_causes" s_wrong_causes
  f_wrong_ref : TD K mg "wrong_ref" s_wrong_ref
  f_wrong_args : TD K mg "wrong_args" s_wrong_args
  f_names_for : TD K mg "names_for" s_names_for
  f_wrong_member : TD K mg "wrong_member" s_wrong_member
  f_wrong_row : TD K mg "wrong_row" s_wrong_row
  f_wrong_rows : TD K mg "wrong_rows" s_wrong_rows
  f_wrong_instruction : TD K mg "wrong_instruction" s_wrong_instruction
  f_wrong_instructions : TD K mg "wrong_instructions" s_wrong_instructions
  f_lot_of : TD K mg "lot_of" s_lot_of
  f_wrong_book : TD K mg "wrong_book" s_wrong_book
  f_Book_init : TK K mg "Book" (C_Book K) "Book.__init__" s_Book_init
  f_Book_registers : TM K (C_Book K) "registers" "Book.registers" s_Book_registers
  f_Book_primitives : TM K (C_Book K) "primitives" "Book.primitives" s_Book_primitives
  f_Book_causes : TM K (C_Book K) "causes" "Book.causes" s_Book_causes
  f_Book_ports : TM K (C_Book K) "ports" "Book.ports" s_Book_ports
  f_Book_instructions : TM K (C_Book K) "instructions" "Book.instructions" s_Book_instructions
  f_Book_instruction : TM K (C_Book K) "instruction" "Book.instruction" s_Book_instruction
  f_is_below : TD K mg "is_below" s_is_below
  f_are_below : TD K mg "are_below" s_are_below
  f_is_table : TD K mg "is_table" s_is_table
  f_are_tables : TD K mg "are_tables" s_are_tables
  f_is_entry : TD K mg "is_entry" s_is_entry
  f_is_code : TD K mg "is_code" s_is_code
  f_wrong_part : TD K mg "wrong_part" s_wrong_part
  f_Meaning_init : TK K mg "Meaning" (C_Meaning K) "Meaning.__init__" s_Meaning_init
  f_Meaning_book : TM K (C_Meaning K) "book" "Meaning.book" s_Meaning_book
  f_Meaning_places : TM K (C_Meaning K) "places" "Meaning.places" s_Meaning_places
  f_Meaning_words : TM K (C_Meaning K) "words" "Meaning.words" s_Meaning_words
  f_Meaning_is_word : TM K (C_Meaning K) "is_word" "Meaning.is_word" s_Meaning_is_word
  f_Meaning_page : TM K (C_Meaning K) "page" "Meaning.page" s_Meaning_page
  f_Meaning_place : TM K (C_Meaning K) "place" "Meaning.place" s_Meaning_place
  f_Meaning_next : TM K (C_Meaning K) "next" "Meaning.next" s_Meaning_next
  f_Meaning_apply : TM K (C_Meaning K) "apply" "Meaning.apply" s_Meaning_apply
  f_Meaning_code_of : TM K (C_Meaning K) "code_of" "Meaning.code_of" s_Meaning_code_of
  f_law_source : TD K mg "_law_source" s_law_source
  f_law_pick : TD K mg "_law_pick" s_law_pick
  f_law_menu : TD K mg "_law_menu" s_law_menu
  f_law_ref : TD K mg "_law_ref" s_law_ref
  f_law_drawn_row : TD K mg "_law_drawn_row" s_law_drawn_row
  f_law_drawn_rows : TD K mg "_law_drawn_rows" s_law_drawn_rows
  f_law_with_meaning : TD K mg "_law_with_meaning" s_law_with_meaning
  f_law_house : TD K mg "_law_house" s_law_house
  f_law_eased : TD K mg "_law_eased" s_law_eased
  f_law_any_house : TD K mg "_law_any_house" s_law_any_house
  f_law_box : TD K mg "_law_box" s_law_box
  f_law_parts : TD K mg "_law_parts" s_law_parts
  f_law : TD K mg "law" s_law
  f_BoxView_word_at : TM K (C_BoxView K) "word_at" "View.word_at" s_View_word_at
  c_View : Cls K (C_View K)
  n_View_ground : NoAttr K (C_View K) "ground"
  n_View_frame_rows : NoAttr K (C_View K) "frame_rows"
  n_View_special_words : NoAttr K (C_View K) "special_words"
  n_View_out_rows : NoAttr K (C_View K) "out_rows"
  n_View_answer_rows : NoAttr K (C_View K) "answer_rows"
  n_View_moment : NoAttr K (C_View K) "moment"
  c_BoxView : Cls K (C_BoxView K)
  n_BoxView_ground : NoAttr K (C_BoxView K) "ground"
  n_BoxView_frame_rows : NoAttr K (C_BoxView K) "frame_rows"
  n_BoxView_special_words : NoAttr K (C_BoxView K) "special_words"
  n_BoxView_out_rows : NoAttr K (C_BoxView K) "out_rows"
  n_BoxView_answer_rows : NoAttr K (C_BoxView K) "answer_rows"
  n_BoxView_moment : NoAttr K (C_BoxView K) "moment"
  n_BoxView_mapping : NoAttr K (C_BoxView K) "mapping"
  c_Draft : Cls K (C_Draft K)
  n_Draft_view : NoAttr K (C_Draft K) "view"
  n_Draft_spots : NoAttr K (C_Draft K) "spots"
  n_Draft_seats : NoAttr K (C_Draft K) "seats"
  n_Draft_temporaries : NoAttr K (C_Draft K) "temporaries"
  n_Draft_cells : NoAttr K (C_Draft K) "cells"
  n_Draft_special_words : NoAttr K (C_Draft K) "special_words"
  n_Draft_out_rows : NoAttr K (C_Draft K) "out_rows"
  n_Draft_answer_rows : NoAttr K (C_Draft K) "answer_rows"
  n_Draft_goal : NoAttr K (C_Draft K) "goal"
  c_Box : Cls K (C_Box K)
  n_Box_ground : NoAttr K (C_Box K) "ground"
  n_Box_frame_rows : NoAttr K (C_Box K) "frame_rows"
  n_Box_special_words : NoAttr K (C_Box K) "special_words"
  n_Box_answer_rows : NoAttr K (C_Box K) "answer_rows"
  n_Box_out_rows : NoAttr K (C_Box K) "out_rows"
  c_Book : Cls K (C_Book K)
  n_Book_width : NoAttr K (C_Book K) "width"
  n_Book_pairs : NoAttr K (C_Book K) "pairs"
  n_Book_own : NoAttr K (C_Book K) "own"
  n_Book_doors : NoAttr K (C_Book K) "doors"
  n_Book_held : NoAttr K (C_Book K) "held"
  c_Meaning : Cls K (C_Meaning K)
  n_Meaning_ground : NoAttr K (C_Meaning K) "ground"
  n_Meaning_wide : NoAttr K (C_Meaning K) "wide"
  n_Meaning_high : NoAttr K (C_Meaning K) "high"
  n_Meaning_results : NoAttr K (C_Meaning K) "results"
  n_Meaning_spots : NoAttr K (C_Meaning K) "spots"
  n_Meaning_deeds : NoAttr K (C_Meaning K) "deeds"
  k_LETTERS : ∃ u, mg "LETTERS" = some u ∧ RelV (.str "abcdefghijklmnopqrstuvwxyz") u
  k_SIGNS : ∃ u, mg "SIGNS" = some u ∧ RelV (.str "abcdefghijklmnopqrstuvwxyz0123456789") u
  k_MOST_SIGNS : ∃ u, mg "MOST_SIGNS" = some u ∧ RelV (.int 12) u
  k_TEMPORARIES : ∃ u, mg "TEMPORARIES" = some u ∧ RelV (.int 4) u
  k_COMMON : ∃ u, mg "COMMON" = some u ∧ RelV (.ref (He.ga K "COMMON")) u
  k_SPECIALS_books : ∃ u, mg "SPECIALS_books" = some u ∧ RelV (.ref (He.ga K "SPECIALS_books")) u
  k_SPECIALS_machines : ∃ u, mg "SPECIALS_machines" = some u ∧ RelV (.ref (He.ga K "SPECIALS_machines")) u
  k_RIGHTS : ∃ u, mg "RIGHTS" = some u ∧ RelV (.ref (He.ga K "RIGHTS")) u
  k_FORMS : ∃ u, mg "FORMS" = some u ∧ RelV (.ref (He.ga K "FORMS")) u
section
variable {P : Program} {w : World} {K : PySem.W.Frag} {mg : Str → Option Value} {base : Heap} {k : Nat} {sp : Sp}
theorem sc_is_stop : FnScope ["meaning", "word", "told", "rows"] ["meaning", "word"] (defScope s_is_stop) := ⟨rfl, rfl, rfl, by decide +kernel, rfl, by decide +kernel, by decide +kernel⟩
theorem mk_is_stop (T : Tx K mg) (len : ∀ vs H Q E, sp vs H Q E → vs.length = 2) (hb : ∀ f, BodyOk P w K mg base k ["meaning", "word", "told", "rows"] "is_stop" s_is_stop f sp) : Cal P w K mg base (k + 1) "is_stop" sp [] := cal_mk T.f_is_stop (fun _ _ _ _ _ _ us hl => match us, hl with | [_, _], _ => rfl) sc_is_stop len hb
theorem sc_stop_words : FnScope ["meaning", "word"] ["meaning"] (defScope s_stop_words) := ⟨rfl, rfl, rfl, by decide +kernel, rfl, by decide +kernel, by decide +kernel⟩
theorem mk_stop_words (T : Tx K mg) (len : ∀ vs H Q E, sp vs H Q E → vs.length = 1) (hb : ∀ f, BodyOk P w K mg base k ["meaning", "word"] "stop_words" s_stop_words f sp) : Cal P w K mg base (k + 1) "stop_words" sp [] := cal_mk T.f_stop_words (fun _ _ _ _ _ _ us hl => match us, hl with | [_], _ => rfl) sc_stop_words len hb
theorem sc_stop_word : FnScope ["meaning", "found"] ["meaning"] (defScope s_stop_word) := ⟨rfl, rfl, rfl, by decide +kernel, rfl, by decide +kernel, by decide +kernel⟩
theorem mk_stop_word (T : Tx K mg) (len : ∀ vs H Q E, sp vs H Q E → vs.length = 1) (hb : ∀ f, BodyOk P w K mg base k ["meaning", "found"] "stop_word" s_stop_word f sp) : Cal P w K mg base (k + 1) "stop_word" sp [] := cal_mk T.f_stop_word (fun _ _ _ _ _ _ us hl => match us, hl with | [_], _ => rfl) sc_stop_word len hb
theorem sc_doubtful_places : FnScope ["meaning", "doubted", "words", "found", "place", "word", "told"] ["meaning", "doubted", "words"] (defScope s_doubtful_places) := ⟨rfl, rfl, rfl, by decide +kernel, rfl, by decide +kernel, by decide +kernel⟩
theorem mk_doubtful_places (T : Tx K mg) (len : ∀ vs H Q E, sp vs H Q E → vs.length = 3) (hb : ∀ f, BodyOk P w K mg base k ["meaning", "doubted", "words", "found", "place", "word", "told"] "doubtful_places" s_doubtful_places f sp) : Cal P w K mg base (k + 1) "doubtful_places" sp [] := cal_mk T.f_doubtful_places (fun _ _ _ _ _ _ us hl => match us, hl with | [_, _, _], _ => rfl) sc_doubtful_places len hb
theorem sc_copied_words : FnScope ["meaning", "doubted", "words", "stop", "places", "place", "word"] ["meaning", "doubted", "words"] (defScope s_copied_words) := ⟨rfl, rfl, rfl, by decide +kernel, rfl, by decide +kernel, by decide +kernel⟩
theorem mk_copied_words (T : Tx K mg) (len : ∀ vs H Q E, sp vs H Q E → vs.length = 3) (hb : ∀ f, BodyOk P w K mg base k ["meaning", "doubted", "words", "stop", "places", "place", "word"] "copied_words" s_copied_words f sp) : Cal P w K mg base (k + 1) "copied_words" sp [] := cal_mk T.f_copied_words (fun _ _ _ _ _ _ us hl => match us, hl with | [_, _, _], _ => rfl) sc_copied_words len hb
theorem sc_View_init : FnScope ["self", "meaning", "frames", "specials", "outs", "answers", "count"] ["self", "meaning", "frames", "specials", "outs", "answers", "count"] (defScope s_View_init) := ⟨rfl, rfl, rfl, by decide +kernel, rfl, by decide +kernel, by decide +kernel⟩
theorem mk_View_init (T : Tx K mg) (len : ∀ vs H Q E, sp vs H Q E → vs.length = 7) (hb : ∀ f, BodyOk P w K mg base k ["self", "meaning", "frames", "specials", "outs", "answers", "count"] "View.__init__" s_View_init f sp) : Mak P w K mg base (k + 1) "View" (C_View K) sp [] := mak_mk T.f_View_init (fun _ _ _ _ _ _ us hl => match us, hl with | [_, _, _, _, _, _, _], _ => rfl) sc_View_init len hb
theorem sc_View_word_at : FnScope ["self", "spot"] ["self", "spot"] (defScope s_View_word_at) := ⟨rfl, rfl, rfl, by decide +kernel, rfl, by decide +kernel, by decide +kernel⟩
theorem mk_View_word_at (T : Tx K mg) (len : ∀ vs H Q E, sp vs H Q E → vs.length = 2) (hb : ∀ f, BodyOk P w K mg base k ["self", "spot"] "View.word_at" s_View_word_at f sp) : Met P w K mg base (k + 1) (C_View K) "word_at" sp [] := met_mk T.f_View_word_at (fun _ _ _ _ _ _ us hl => match us, hl with | [_, _], _ => rfl) sc_View_word_at len hb
theorem sc_BoxView_spot_of : FnScope ["self", "address", "right", "page"] ["self", "address", "right"] (defScope s_BoxView_spot_of) := ⟨rfl, rfl, rfl, by decide +kernel, rfl, by decide +kernel, by decide +kernel⟩
theorem mk_BoxView_spot_of (T : Tx K mg) (len : ∀ vs H Q E, sp vs H Q E → vs.length = 3) (hb : ∀ f, BodyOk P w K mg base k ["self", "address", "right", "page"] "BoxView.spot_of" s_BoxView_spot_of f sp) : Met P w K mg base (k + 1) (C_BoxView K) "spot_of" sp [] := met_mk T.f_BoxView_spot_of (fun _ _ _ _ _ _ us hl => match us, hl with | [_, _, _], _ => rfl) sc_BoxView_spot_of len hb
theorem sc_Draft_init : FnScope ["self", "view", "registers", "operands", "port"] ["self", "view", "registers", "operands"] (defScope s_Draft_init) := ⟨rfl, rfl, rfl, by decide +kernel, rfl, by decide +kernel, by decide +kernel⟩
theorem mk_Draft_init (T : Tx K mg) (len : ∀ vs H Q E, sp vs H Q E → vs.length = 4) (hb : ∀ f, BodyOk P w K mg base k ["self", "view", "registers", "operands", "port"] "Draft.__init__" s_Draft_init f sp) : Mak P w K mg base (k + 1) "Draft" (C_Draft K) sp [] := mak_mk T.f_Draft_init (fun _ _ _ _ _ _ us hl => match us, hl with | [_, _, _, _], _ => rfl) sc_Draft_init len hb
theorem sc_Draft_value : FnScope ["self", "ref"] ["self", "ref"] (defScope s_Draft_value) := ⟨rfl, rfl, rfl, by decide +kernel, rfl, by decide +kernel, by decide +kernel⟩
theorem mk_Draft_value (T : Tx K mg) (len : ∀ vs H Q E, sp vs H Q E → vs.length = 2) (hb : ∀ f, BodyOk P w K mg base k ["self", "ref"] "Draft.value" s_Draft_value f sp) : Met P w K mg base (k + 1) (C_Draft K) "value" sp [] := met_mk T.f_Draft_value (fun _ _ _ _ _ _ us hl => match us, hl with | [_, _], _ => rfl) sc_Draft_value len hb
theorem sc_Draft_assign : FnScope ["self", "ref", "word"] ["self", "ref", "word"] (defScope s_Draft_assign) := ⟨rfl, rfl, rfl, by decide +kernel, rfl, by decide +kernel, by decide +kernel⟩
theorem mk_Draft_assign (T : Tx K mg) (len : ∀ vs H Q E, sp vs H Q E → vs.length = 3) (hb : ∀ f, BodyOk P w K mg base k ["self", "ref", "word"] "Draft.assign" s_Draft_assign f sp) : Met P w K mg base (k + 1) (C_Draft K) "assign" sp [] := met_mk T.f_Draft_assign (fun _ _ _ _ _ _ us hl => match us, hl with | [_, _, _], _ => rfl) sc_Draft_assign len hb
theorem sc_Draft_taken : FnScope ["self", "port", "rows"] ["self", "port"] (defScope s_Draft_taken) := ⟨rfl, rfl, rfl, by decide +kernel, rfl, by decide +kernel, by decide +kernel⟩
theorem mk_Draft_taken (T : Tx K mg) (len : ∀ vs H Q E, sp vs H Q E → vs.length = 2) (hb : ∀ f, BodyOk P w K mg base k ["self", "port", "rows"] "Draft.taken" s_Draft_taken f sp) : Met P w K mg base (k + 1) (C_Draft K) "taken" sp [] := met_mk T.f_Draft_taken (fun _ _ _ _ _ _ us hl => match us, hl with | [_, _], _ => rfl) sc_Draft_taken len hb
theorem sc_Draft_touch : FnScope ["self", "row", "address", "right", "spot"] ["self", "row"] (defScope s_Draft_touch) := ⟨rfl, rfl, rfl, by decide +kernel, rfl, by decide +kernel, by decide +kernel⟩
theorem mk_Draft_touch (T : Tx K mg) (len : ∀ vs H Q E, sp vs H Q E → vs.length = 2) (hb : ∀ f, BodyOk P w K mg base k ["self", "row", "address", "right", "spot"] "Draft.touch" s_Draft_touch f sp) : Met P w K mg base (k + 1) (C_Draft K) "touch" sp [] := met_mk T.f_Draft_touch (fun _ _ _ _ _ _ us hl => match us, hl with | [_, _], _ => rfl) sc_Draft_touch len hb
theorem sc_Draft_settle : FnScope ["self", "row", "word", "given", "ref"] ["self", "row"] (defScope s_Draft_settle) := ⟨rfl, rfl, rfl, by decide +kernel, rfl, by decide +kernel, by decide +kernel⟩
theorem mk_Draft_settle (T : Tx K mg) (len : ∀ vs H Q E, sp vs H Q E → vs.length = 2) (hb : ∀ f, BodyOk P w K mg base k ["self", "row", "word", "given", "ref"] "Draft.settle" s_Draft_settle f sp) : Met P w K mg base (k + 1) (C_Draft K) "settle" sp [] := met_mk T.f_Draft_settle (fun _ _ _ _ _ _ us hl => match us, hl with | [_, _], _ => rfl) sc_Draft_settle len hb
theorem sc_Draft_frames : FnScope ["self", "found", "spot", "frame"] ["self"] (defScope s_Draft_frames) := ⟨rfl, rfl, rfl, by decide +kernel, rfl, by decide +kernel, by decide +kernel⟩
theorem mk_Draft_frames (T : Tx K mg) (len : ∀ vs H Q E, sp vs H Q E → vs.length = 1) (hb : ∀ f, BodyOk P w K mg base k ["self", "found", "spot", "frame"] "Draft.frames" s_Draft_frames f sp) : Met P w K mg base (k + 1) (C_Draft K) "frames" sp [] := met_mk T.f_Draft_frames (fun _ _ _ _ _ _ us hl => match us, hl with | [_], _ => rfl) sc_Draft_frames len hb
theorem sc_carry_out : FnScope ["draft", "rows", "row", "end"] ["draft", "rows"] (defScope s_carry_out) := ⟨rfl, rfl, rfl, by decide +kernel, rfl, by decide +kernel, by decide +kernel⟩
theorem mk_carry_out (T : Tx K mg) (len : ∀ vs H Q E, sp vs H Q E → vs.length = 2) (hb : ∀ f, BodyOk P w K mg base k ["draft", "rows", "row", "end"] "carry_out" s_carry_out f sp) : Cal P w K mg base (k + 1) "carry_out" sp [] := cal_mk T.f_carry_out (fun _ _ _ _ _ _ us hl => match us, hl with | [_, _], _ => rfl) sc_carry_out len hb
theorem sc_tried : FnScope ["view", "registers", "pc", "is_user", "spot", "code", "draft", "told", "end"] ["view", "registers", "pc", "is_user"] (defScope s_tried) := ⟨rfl, rfl, rfl, by decide +kernel, rfl, by decide +kernel, by decide +kernel⟩
theorem mk_tried (T : Tx K mg) (len : ∀ vs H Q E, sp vs H Q E → vs.length = 4) (hb : ∀ f, BodyOk P w K mg base k ["view", "registers", "pc", "is_user", "spot", "code", "draft", "told", "end"] "tried" s_tried f sp) : Cal P w K mg base (k + 1) "tried" sp [] := cal_mk T.f_tried (fun _ _ _ _ _ _ us hl => match us, hl with | [_, _, _, _], _ => rfl) sc_tried len hb
theorem sc_next_pc : FnScope ["draft", "pc"] ["draft", "pc"] (defScope s_next_pc) := ⟨rfl, rfl, rfl, by decide +kernel, rfl, by decide +kernel, by decide +kernel⟩
theorem mk_next_pc (T : Tx K mg) (len : ∀ vs H Q E, sp vs H Q E → vs.length = 2) (hb : ∀ f, BodyOk P w K mg base k ["draft", "pc"] "next_pc" s_next_pc f sp) : Cal P w K mg base (k + 1) "next_pc" sp [] := cal_mk T.f_next_pc (fun _ _ _ _ _ _ us hl => match us, hl with | [_, _], _ => rfl) sc_next_pc len hb
theorem sc_are_words : FnScope ["meaning", "values", "many", "value"] ["meaning", "values", "many"] (defScope s_are_words) := ⟨rfl, rfl, rfl, by decide +kernel, rfl, by decide +kernel, by decide +kernel⟩
theorem mk_are_words (T : Tx K mg) (len : ∀ vs H Q E, sp vs H Q E → vs.length = 3) (hb : ∀ f, BodyOk P w K mg base k ["meaning", "values", "many", "value"] "are_words" s_are_words f sp) : Cal P w K mg base (k + 1) "are_words" sp [] := cal_mk T.f_are_words (fun _ _ _ _ _ _ us hl => match us, hl with | [_, _, _], _ => rfl) sc_are_words len hb
theorem sc_are_frames : FnScope ["meaning", "frames", "frame"] ["meaning", "frames"] (defScope s_are_frames) := ⟨rfl, rfl, rfl, by decide +kernel, rfl, by decide +kernel, by decide +kernel⟩
theorem mk_are_frames (T : Tx K mg) (len : ∀ vs H Q E, sp vs H Q E → vs.length = 2) (hb : ∀ f, BodyOk P w K mg base k ["meaning", "frames", "frame"] "are_frames" s_are_frames f sp) : Cal P w K mg base (k + 1) "are_frames" sp [] := cal_mk T.f_are_frames (fun _ _ _ _ _ _ us hl => match us, hl with | [_, _], _ => rfl) sc_are_frames len hb
theorem sc_are_specials : FnScope ["meaning", "specials", "name"] ["meaning", "specials"] (defScope s_are_specials) := ⟨rfl, rfl, rfl, by decide +kernel, rfl, by decide +kernel, by decide +kernel⟩
theorem mk_are_specials (T : Tx K mg) (len : ∀ vs H Q E, sp vs H Q E → vs.length = 2) (hb : ∀ f, BodyOk P w K mg base k ["meaning", "specials", "name"] "are_specials" s_are_specials f sp) : Cal P w K mg base (k + 1) "are_specials" sp [] := cal_mk T.f_are_specials (fun _ _ _ _ _ _ us hl => match us, hl with | [_, _], _ => rfl) sc_are_specials len hb
theorem sc_are_by_ports : FnScope ["meaning", "lists", "ports", "port"] ["meaning", "lists"] (defScope s_are_by_ports) := ⟨rfl, rfl, rfl, by decide +kernel, rfl, by decide +kernel, by decide +kernel⟩
theorem mk_are_by_ports (T : Tx K mg) (len : ∀ vs H Q E, sp vs H Q E → vs.length = 2) (hb : ∀ f, BodyOk P w K mg base k ["meaning", "lists", "ports", "port"] "are_by_ports" s_are_by_ports f sp) : Cal P w K mg base (k + 1) "are_by_ports" sp [] := cal_mk T.f_are_by_ports (fun _ _ _ _ _ _ us hl => match us, hl with | [_, _], _ => rfl) sc_are_by_ports len hb
theorem sc_are_outs : FnScope ["meaning", "outs", "port"] ["meaning", "outs"] (defScope s_are_outs) := ⟨rfl, rfl, rfl, by decide +kernel, rfl, by decide +kernel, by decide +kernel⟩
theorem mk_are_outs (T : Tx K mg) (len : ∀ vs H Q E, sp vs H Q E → vs.length = 2) (hb : ∀ f, BodyOk P w K mg base k ["meaning", "outs", "port"] "are_outs" s_are_outs f sp) : Cal P w K mg base (k + 1) "are_outs" sp [] := cal_mk T.f_are_outs (fun _ _ _ _ _ _ us hl => match us, hl with | [_, _], _ => rfl) sc_are_outs len hb
theorem sc_Box_init : FnScope ["self", "meaning", "frames", "specials", "answers", "frame", "port"] ["self", "meaning", "frames", "specials", "answers"] (defScope s_Box_init) := ⟨rfl, rfl, rfl, by decide +kernel, rfl, by decide +kernel, by decide +kernel⟩
theorem mk_Box_init (T : Tx K mg) (len : ∀ vs H Q E, sp vs H Q E → vs.length = 5) (hb : ∀ f, BodyOk P w K mg base k ["self", "meaning", "frames", "specials", "answers", "frame", "port"] "Box.__init__" s_Box_init f sp) : Mak P w K mg base (k + 1) "Box" (C_Box K) sp [] := mak_mk T.f_Box_init (fun _ _ _ _ _ _ us hl => match us, hl with | [_, _, _, _, _], _ => rfl) sc_Box_init len hb
theorem sc_Box_frames : FnScope ["self", "frame"] ["self"] (defScope s_Box_frames) := ⟨rfl, rfl, rfl, by decide +kernel, rfl, by decide +kernel, by decide +kernel⟩
theorem mk_Box_frames (T : Tx K mg) (len : ∀ vs H Q E, sp vs H Q E → vs.length = 1) (hb : ∀ f, BodyOk P w K mg base k ["self", "frame"] "Box.frames" s_Box_frames f sp) : Met P w K mg base (k + 1) (C_Box K) "frames" sp [] := met_mk T.f_Box_frames (fun _ _ _ _ _ _ us hl => match us, hl with | [_], _ => rfl) sc_Box_frames len hb
theorem sc_Box_specials : FnScope ["self"] ["self"] (defScope s_Box_specials) := ⟨rfl, rfl, rfl, by decide +kernel, rfl, by decide +kernel, by decide +kernel⟩
theorem mk_Box_specials (T : Tx K mg) (len : ∀ vs H Q E, sp vs H Q E → vs.length = 1) (hb : ∀ f, BodyOk P w K mg base k ["self"] "Box.specials" s_Box_specials f sp) : Met P w K mg base (k + 1) (C_Box K) "specials" sp [] := met_mk T.f_Box_specials (fun _ _ _ _ _ _ us hl => match us, hl with | [_], _ => rfl) sc_Box_specials len hb
theorem sc_Box_answers : FnScope ["self", "port"] ["self"] (defScope s_Box_answers) := ⟨rfl, rfl, rfl, by decide +kernel, rfl, by decide +kernel, by decide +kernel⟩
theorem mk_Box_answers (T : Tx K mg) (len : ∀ vs H Q E, sp vs H Q E → vs.length = 1) (hb : ∀ f, BodyOk P w K mg base k ["self", "port"] "Box.answers" s_Box_answers f sp) : Met P w K mg base (k + 1) (C_Box K) "answers" sp [] := met_mk T.f_Box_answers (fun _ _ _ _ _ _ us hl => match us, hl with | [_], _ => rfl) sc_Box_answers len hb
theorem sc_Box_outs : FnScope ["self", "port"] ["self"] (defScope s_Box_outs) := ⟨rfl, rfl, rfl, by decide +kernel, rfl, by decide +kernel, by decide +kernel⟩
theorem mk_Box_outs (T : Tx K mg) (len : ∀ vs H Q E, sp vs H Q E → vs.length = 1) (hb : ∀ f, BodyOk P w K mg base k ["self", "port"] "Box.outs" s_Box_outs f sp) : Met P w K mg base (k + 1) (C_Box K) "outs" sp [] := met_mk T.f_Box_outs (fun _ _ _ _ _ _ us hl => match us, hl with | [_], _ => rfl) sc_Box_outs len hb
theorem sc_Box_bare : FnScope ["self", "mapping", "registers", "pc", "view", "end", "draft", "port", "count", "word"] ["self", "mapping", "registers", "pc"] (defScope s_Box_bare) := ⟨rfl, rfl, rfl, by decide +kernel, rfl, by decide +kernel, by decide +kernel⟩
theorem mk_Box_bare (T : Tx K mg) (len : ∀ vs H Q E, sp vs H Q E → vs.length = 4) (hb : ∀ f, BodyOk P w K mg base k ["self", "mapping", "registers", "pc", "view", "end", "draft", "port", "count", "word"] "Box.bare" s_Box_bare f sp) : Met P w K mg base (k + 1) (C_Box K) "bare" sp [] := met_mk T.f_Box_bare (fun _ _ _ _ _ _ us hl => match us, hl with | [_, _, _, _], _ => rfl) sc_Box_bare len hb
theorem sc_is_name : FnScope ["thing", "sign"] ["thing"] (defScope s_is_name) := ⟨rfl, rfl, rfl, by decide +kernel, rfl, by decide +kernel, by decide +kernel⟩
theorem mk_is_name (T : Tx K mg) (len : ∀ vs H Q E, sp vs H Q E → vs.length = 1) (hb : ∀ f, BodyOk P w K mg base k ["thing", "sign"] "is_name" s_is_name f sp) : Cal P w K mg base (k + 1) "is_name" sp [] := cal_mk T.f_is_name (fun _ _ _ _ _ _ us hl => match us, hl with | [_], _ => rfl) sc_is_name len hb
theorem sc_is_count : FnScope ["thing", "least"] ["thing", "least"] (defScope s_is_count) := ⟨rfl, rfl, rfl, by decide +kernel, rfl, by decide +kernel, by decide +kernel⟩
theorem mk_is_count (T : Tx K mg) (len : ∀ vs H Q E, sp vs H Q E → vs.length = 2) (hb : ∀ f, BodyOk P w K mg base k ["thing", "least"] "is_count" s_is_count f sp) : Cal P w K mg base (k + 1) "is_count" sp [] := cal_mk T.f_is_count (fun _ _ _ _ _ _ us hl => match us, hl with | [_, _], _ => rfl) sc_is_count len hb
theorem sc_is_known : FnScope ["thing", "names"] ["thing", "names"] (defScope s_is_known) := ⟨rfl, rfl, rfl, by decide +kernel, rfl, by decide +kernel, by decide +kernel⟩
theorem mk_is_known (T : Tx K mg) (len : ∀ vs H Q E, sp vs H Q E → vs.length = 2) (hb : ∀ f, BodyOk P w K mg base k ["thing", "names"] "is_known" s_is_known f sp) : Cal P w K mg base (k + 1) "is_known" sp [] := cal_mk T.f_is_known (fun _ _ _ _ _ _ us hl => match us, hl with | [_, _], _ => rfl) sc_is_known len hb
theorem sc_wrong_names : FnScope ["part", "path", "known", "number", "name"] ["part", "path"] (defScope s_wrong_names) := ⟨rfl, rfl, rfl, by decide +kernel, rfl, by decide +kernel, by decide +kernel⟩
theorem mk_wrong_names (T : Tx K mg) (len : ∀ vs H Q E, sp vs H Q E → vs.length = 2) (hb : ∀ f, BodyOk P w K mg base k ["part", "path", "known", "number", "name"] "wrong_names" s_wrong_names f sp) : Cal P w K mg base (k + 1) "wrong_names" sp [] := cal_mk T.f_wrong_names (fun _ _ _ _ _ _ us hl => match us, hl with | [_, _], _ => rfl) sc_wrong_names len hb
theorem sc_wrong_primitives : FnScope ["part", "known", "number", "pair"] ["part"] (defScope s_wrong_primitives) := ⟨rfl, rfl, rfl, by decide +kernel, rfl, by decide +kernel, by decide +kernel⟩
theorem mk_wrong_primitives (T : Tx K mg) (len : ∀ vs H Q E, sp vs H Q E → vs.length = 1) (hb : ∀ f, BodyOk P w K mg base k ["part", "known", "number", "pair"] "wrong_primitives" s_wrong_primitives f sp) : Cal P w K mg base (k + 1) "wrong_primitives" sp [] := cal_mk T.f_wrong_primitives (fun _ _ _ _ _ _ us hl => match us, hl with | [_], _ => rfl) sc_wrong_primitives len hb
theorem sc_wrong_causes : FnScope ["part", "found", "number", "name"] ["part"] (defScope s_wrong_causes) := ⟨rfl, rfl, rfl, by decide +kernel, rfl, by decide +kernel, by decide +kernel⟩
theorem mk_wrong_causes (T : Tx K mg) (len : ∀ vs H Q E, sp vs H Q E → vs.length = 1) (hb : ∀ f, BodyOk P w K mg base k ["part", "found", "number", "name"] "wrong_causes" s_wrong_causes f sp) : Cal P w K mg base (k + 1) "wrong_causes" sp [] := cal_mk T.f_wrong_causes (fun _ _ _ _ _ _ us hl => match us, hl with | [_], _ => rfl) sc_wrong_causes len hb
theorem sc_wrong_ref : FnScope ["part", "operands", "path", "most"] ["part", "operands", "path"] (defScope s_wrong_ref) := ⟨rfl, rfl, rfl, by decide +kernel, rfl, by decide +kernel, by decide +kernel⟩
theorem mk_wrong_ref (T : Tx K mg) (len : ∀ vs H Q E, sp vs H Q E → vs.length = 3) (hb : ∀ f, BodyOk P w K mg base k ["part", "operands", "path", "most"] "wrong_ref" s_wrong_ref f sp) : Cal P w K mg base (k + 1) "wrong_ref" sp [] := cal_mk T.f_wrong_ref (fun _ _ _ _ _ _ us hl => match us, hl with | [_, _, _], _ => rfl) sc_wrong_ref len hb
theorem sc_wrong_args : FnScope ["part", "arity", "operands", "path", "number", "ref", "found"] ["part", "arity", "operands", "path"] (defScope s_wrong_args) := ⟨rfl, rfl, rfl, by decide +kernel, rfl, by decide +kernel, by decide +kernel⟩
theorem mk_wrong_args (T : Tx K mg) (len : ∀ vs H Q E, sp vs H Q E → vs.length = 4) (hb : ∀ f, BodyOk P w K mg base k ["part", "arity", "operands", "path", "number", "ref", "found"] "wrong_args" s_wrong_args f sp) : Cal P w K mg base (k + 1) "wrong_args" sp [] := cal_mk T.f_wrong_args (fun _ _ _ _ _ _ us hl => match us, hl with | [_, _, _, _], _ => rfl) sc_wrong_args len hb
theorem sc_names_for : FnScope ["lot", "sort"] ["lot", "sort"] (defScope s_names_for) := ⟨rfl, rfl, rfl, by decide +kernel, rfl, by decide +kernel, by decide +kernel⟩
theorem mk_names_for (T : Tx K mg) (len : ∀ vs H Q E, sp vs H Q E → vs.length = 2) (hb : ∀ f, BodyOk P w K mg base k ["lot", "sort"] "names_for" s_names_for f sp) : Cal P w K mg base (k + 1) "names_for" sp [] := cal_mk T.f_names_for (fun _ _ _ _ _ _ us hl => match us, hl with | [_, _], _ => rfl) sc_names_for len hb
theorem sc_wrong_member : FnScope ["row", "number", "sort", "lot", "operands", "path", "part"] ["row", "number", "sort", "lot", "operands", "path"] (defScope s_wrong_member) := ⟨rfl, rfl, rfl, by decide +kernel, rfl, by decide +kernel, by decide +kernel⟩
theorem mk_wrong_member (T : Tx K mg) (len : ∀ vs H Q E, sp vs H Q E → vs.length = 6) (hb : ∀ f, BodyOk P w K mg base k ["row", "number", "sort", "lot", "operands", "path", "part"] "wrong_member" s_wrong_member f sp) : Cal P w K mg base (k + 1) "wrong_member" sp [] := cal_mk T.f_wrong_member (fun _ _ _ _ _ _ us hl => match us, hl with | [_, _, _, _, _, _], _ => rfl) sc_wrong_member len hb
theorem sc_wrong_row : FnScope ["row", "lot", "operands", "path", "sorts", "at", "sort", "found"] ["row", "lot", "operands", "path"] (defScope s_wrong_row) := ⟨rfl, rfl, rfl, by decide +kernel, rfl, by decide +kernel, by decide +kernel⟩
theorem mk_wrong_row (T : Tx K mg) (len : ∀ vs H Q E, sp vs H Q E → vs.length = 4) (hb : ∀ f, BodyOk P w K mg base k ["row", "lot", "operands", "path", "sorts", "at", "sort", "found"] "wrong_row" s_wrong_row f sp) : Cal P w K mg base (k + 1) "wrong_row" sp [] := cal_mk T.f_wrong_row (fun _ _ _ _ _ _ us hl => match us, hl with | [_, _, _, _], _ => rfl) sc_wrong_row len hb
theorem sc_wrong_rows : FnScope ["part", "lot", "operands", "path", "number", "row", "found"] ["part", "lot", "operands", "path"] (defScope s_wrong_rows) := ⟨rfl, rfl, rfl, by decide +kernel, rfl, by decide +kernel, by decide +kernel⟩
theorem mk_wrong_rows (T : Tx K mg) (len : ∀ vs H Q E, sp vs H Q E → vs.length = 4) (hb : ∀ f, BodyOk P w K mg base k ["part", "lot", "operands", "path", "number", "row", "found"] "wrong_rows" s_wrong_rows f sp) : Cal P w K mg base (k + 1) "wrong_rows" sp [] := cal_mk T.f_wrong_rows (fun _ _ _ _ _ _ us hl => match us, hl with | [_, _, _, _], _ => rfl) sc_wrong_rows len hb
theorem sc_wrong_instruction : FnScope ["part", "known", "lot", "path", "found"] ["part", "known", "lot", "path"] (defScope s_wrong_instruction) := ⟨rfl, rfl, rfl, by decide +kernel, rfl, by decide +kernel, by decide +kernel⟩
theorem mk_wrong_instruction (T : Tx K mg) (len : ∀ vs H Q E, sp vs H Q E → vs.length = 4) (hb : ∀ f, BodyOk P w K mg base k ["part", "known", "lot", "path", "found"] "wrong_instruction" s_wrong_instruction f sp) : Cal P w K mg base (k + 1) "wrong_instruction" sp [] := cal_mk T.f_wrong_instruction (fun _ _ _ _ _ _ us hl => match us, hl with | [_, _, _, _], _ => rfl) sc_wrong_instruction len hb
theorem sc_wrong_instructions : FnScope ["part", "lot", "known", "number", "instruction", "found"] ["part", "lot"] (defScope s_wrong_instructions) := ⟨rfl, rfl, rfl, by decide +kernel, rfl, by decide +kernel, by decide +kernel⟩
theorem mk_wrong_instructions (T : Tx K mg) (len : ∀ vs H Q E, sp vs H Q E → vs.length = 2) (hb : ∀ f, BodyOk P w K mg base k ["part", "lot", "known", "number", "instruction", "found"] "wrong_instructions" s_wrong_instructions f sp) : Cal P w K mg base (k + 1) "wrong_instructions" sp [] := cal_mk T.f_wrong_instructions (fun _ _ _ _ _ _ us hl => match us, hl with | [_, _], _ => rfl) sc_wrong_instructions len hb
theorem sc_lot_of : FnScope ["primitives", "causes", "ports", "known", "name"] ["primitives", "causes", "ports"] (defScope s_lot_of) := ⟨rfl, rfl, rfl, by decide +kernel, rfl, by decide +kernel, by decide +kernel⟩
theorem mk_lot_of (T : Tx K mg) (len : ∀ vs H Q E, sp vs H Q E → vs.length = 3) (hb : ∀ f, BodyOk P w K mg base k ["primitives", "causes", "ports", "known", "name"] "lot_of" s_lot_of f sp) : Cal P w K mg base (k + 1) "lot_of" sp [] := cal_mk T.f_lot_of (fun _ _ _ _ _ _ us hl => match us, hl with | [_, _, _], _ => rfl) sc_lot_of len hb
theorem sc_wrong_book : FnScope ["registers", "primitives", "causes", "ports", "instructions", "found"] ["registers", "primitives", "causes", "ports", "instructions"] (defScope s_wrong_book) := ⟨rfl, rfl, rfl, by decide +kernel, rfl, by decide +kernel, by decide +kernel⟩
theorem mk_wrong_book (T : Tx K mg) (len : ∀ vs H Q E, sp vs H Q E → vs.length = 5) (hb : ∀ f, BodyOk P w K mg base k ["registers", "primitives", "causes", "ports", "instructions", "found"] "wrong_book" s_wrong_book f sp) : Cal P w K mg base (k + 1) "wrong_book" sp [] := cal_mk T.f_wrong_book (fun _ _ _ _ _ _ us hl => match us, hl with | [_, _, _, _, _], _ => rfl) sc_wrong_book len hb
theorem sc_Book_init : FnScope ["self", "registers", "primitives", "causes", "ports", "instructions", "path"] ["self", "registers", "primitives", "causes", "ports", "instructions"] (defScope s_Book_init) := ⟨rfl, rfl, rfl, by decide +kernel, rfl, by decide +kernel, by decide +kernel⟩
theorem mk_Book_init (T : Tx K mg) (len : ∀ vs H Q E, sp vs H Q E → vs.length = 6) (hb : ∀ f, BodyOk P w K mg base k ["self", "registers", "primitives", "causes", "ports", "instructions", "path"] "Book.__init__" s_Book_init f sp) : Mak P w K mg base (k + 1) "Book" (C_Book K) sp [] := mak_mk T.f_Book_init (fun _ _ _ _ _ _ us hl => match us, hl with | [_, _, _, _, _, _], _ => rfl) sc_Book_init len hb
theorem sc_Book_registers : FnScope ["self"] ["self"] (defScope s_Book_registers) := ⟨rfl, rfl, rfl, by decide +kernel, rfl, by decide +kernel, by decide +kernel⟩
theorem mk_Book_registers (T : Tx K mg) (len : ∀ vs H Q E, sp vs H Q E → vs.length = 1) (hb : ∀ f, BodyOk P w K mg base k ["self"] "Book.registers" s_Book_registers f sp) : Met P w K mg base (k + 1) (C_Book K) "registers" sp [] := met_mk T.f_Book_registers (fun _ _ _ _ _ _ us hl => match us, hl with | [_], _ => rfl) sc_Book_registers len hb
theorem sc_Book_primitives : FnScope ["self"] ["self"] (defScope s_Book_primitives) := ⟨rfl, rfl, rfl, by decide +kernel, rfl, by decide +kernel, by decide +kernel⟩
theorem mk_Book_primitives (T : Tx K mg) (len : ∀ vs H Q E, sp vs H Q E → vs.length = 1) (hb : ∀ f, BodyOk P w K mg base k ["self"] "Book.primitives" s_Book_primitives f sp) : Met P w K mg base (k + 1) (C_Book K) "primitives" sp [] := met_mk T.f_Book_primitives (fun _ _ _ _ _ _ us hl => match us, hl with | [_], _ => rfl) sc_Book_primitives len hb
theorem sc_Book_causes : FnScope ["self"] ["self"] (defScope s_Book_causes) := ⟨rfl, rfl, rfl, by decide +kernel, rfl, by decide +kernel, by decide +kernel⟩
theorem mk_Book_causes (T : Tx K mg) (len : ∀ vs H Q E, sp vs H Q E → vs.length = 1) (hb : ∀ f, BodyOk P w K mg base k ["self"] "Book.causes" s_Book_causes f sp) : Met P w K mg base (k + 1) (C_Book K) "causes" sp [] := met_mk T.f_Book_causes (fun _ _ _ _ _ _ us hl => match us, hl with | [_], _ => rfl) sc_Book_causes len hb
theorem sc_Book_ports : FnScope ["self"] ["self"] (defScope s_Book_ports) := ⟨rfl, rfl, rfl, by decide +kernel, rfl, by decide +kernel, by decide +kernel⟩
theorem mk_Book_ports (T : Tx K mg) (len : ∀ vs H Q E, sp vs H Q E → vs.length = 1) (hb : ∀ f, BodyOk P w K mg base k ["self"] "Book.ports" s_Book_ports f sp) : Met P w K mg base (k + 1) (C_Book K) "ports" sp [] := met_mk T.f_Book_ports (fun _ _ _ _ _ _ us hl => match us, hl with | [_], _ => rfl) sc_Book_ports len hb
theorem sc_Book_instructions : FnScope ["self"] ["self"] (defScope s_Book_instructions) := ⟨rfl, rfl, rfl, by decide +kernel, rfl, by decide +kernel, by decide +kernel⟩
theorem mk_Book_instructions (T : Tx K mg) (len : ∀ vs H Q E, sp vs H Q E → vs.length = 1) (hb : ∀ f, BodyOk P w K mg base k ["self"] "Book.instructions" s_Book_instructions f sp) : Met P w K mg base (k + 1) (C_Book K) "instructions" sp [] := met_mk T.f_Book_instructions (fun _ _ _ _ _ _ us hl => match us, hl with | [_], _ => rfl) sc_Book_instructions len hb
theorem sc_Book_instruction : FnScope ["self", "name", "row"] ["self", "name"] (defScope s_Book_instruction) := ⟨rfl, rfl, rfl, by decide +kernel, rfl, by decide +kernel, by decide +kernel⟩
theorem mk_Book_instruction (T : Tx K mg) (len : ∀ vs H Q E, sp vs H Q E → vs.length = 2) (hb : ∀ f, BodyOk P w K mg base k ["self", "name", "row"] "Book.instruction" s_Book_instruction f sp) : Met P w K mg base (k + 1) (C_Book K) "instruction" sp [] := met_mk T.f_Book_instruction (fun _ _ _ _ _ _ us hl => match us, hl with | [_, _], _ => rfl) sc_Book_instruction len hb
theorem sc_is_below : FnScope ["thing", "most"] ["thing", "most"] (defScope s_is_below) := ⟨rfl, rfl, rfl, by decide +kernel, rfl, by decide +kernel, by decide +kernel⟩
theorem mk_is_below (T : Tx K mg) (len : ∀ vs H Q E, sp vs H Q E → vs.length = 2) (hb : ∀ f, BodyOk P w K mg base k ["thing", "most"] "is_below" s_is_below f sp) : Cal P w K mg base (k + 1) "is_below" sp [] := cal_mk T.f_is_below (fun _ _ _ _ _ _ us hl => match us, hl with | [_, _], _ => rfl) sc_is_below len hb
theorem sc_are_below : FnScope ["thing", "many", "most", "one"] ["thing", "many", "most"] (defScope s_are_below) := ⟨rfl, rfl, rfl, by decide +kernel, rfl, by decide +kernel, by decide +kernel⟩
theorem mk_are_below (T : Tx K mg) (len : ∀ vs H Q E, sp vs H Q E → vs.length = 3) (hb : ∀ f, BodyOk P w K mg base k ["thing", "many", "most", "one"] "are_below" s_are_below f sp) : Cal P w K mg base (k + 1) "are_below" sp [] := cal_mk T.f_are_below (fun _ _ _ _ _ _ us hl => match us, hl with | [_, _, _], _ => rfl) sc_are_below len hb
theorem sc_is_table : FnScope ["thing", "arity", "words", "args"] ["thing", "arity", "words"] (defScope s_is_table) := ⟨rfl, rfl, rfl, by decide +kernel, rfl, by decide +kernel, by decide +kernel⟩
theorem mk_is_table (T : Tx K mg) (len : ∀ vs H Q E, sp vs H Q E → vs.length = 3) (hb : ∀ f, BodyOk P w K mg base k ["thing", "arity", "words", "args"] "is_table" s_is_table f sp) : Cal P w K mg base (k + 1) "is_table" sp [] := cal_mk T.f_is_table (fun _ _ _ _ _ _ us hl => match us, hl with | [_, _, _], _ => rfl) sc_is_table len hb
theorem sc_are_tables : FnScope ["book", "thing", "words", "arities", "name"] ["book", "thing", "words"] (defScope s_are_tables) := ⟨rfl, rfl, rfl, by decide +kernel, rfl, by decide +kernel, by decide +kernel⟩
theorem mk_are_tables (T : Tx K mg) (len : ∀ vs H Q E, sp vs H Q E → vs.length = 3) (hb : ∀ f, BodyOk P w K mg base k ["book", "thing", "words", "arities", "name"] "are_tables" s_are_tables f sp) : Cal P w K mg base (k + 1) "are_tables" sp [] := cal_mk T.f_are_tables (fun _ _ _ _ _ _ us hl => match us, hl with | [_, _, _], _ => rfl) sc_are_tables len hb
theorem sc_is_entry : FnScope ["thing"] ["thing"] (defScope s_is_entry) := ⟨rfl, rfl, rfl, by decide +kernel, rfl, by decide +kernel, by decide +kernel⟩
theorem mk_is_entry (T : Tx K mg) (len : ∀ vs H Q E, sp vs H Q E → vs.length = 1) (hb : ∀ f, BodyOk P w K mg base k ["thing"] "is_entry" s_is_entry f sp) : Cal P w K mg base (k + 1) "is_entry" sp [] := cal_mk T.f_is_entry (fun _ _ _ _ _ _ us hl => match us, hl with | [_], _ => rfl) sc_is_entry len hb
theorem sc_is_code : FnScope ["book", "thing", "operands", "row"] ["book", "thing"] (defScope s_is_code) := ⟨rfl, rfl, rfl, by decide +kernel, rfl, by decide +kernel, by decide +kernel⟩
theorem mk_is_code (T : Tx K mg) (len : ∀ vs H Q E, sp vs H Q E → vs.length = 2) (hb : ∀ f, BodyOk P w K mg base k ["book", "thing", "operands", "row"] "is_code" s_is_code f sp) : Cal P w K mg base (k + 1) "is_code" sp [] := cal_mk T.f_is_code (fun _ _ _ _ _ _ us hl => match us, hl with | [_, _], _ => rfl) sc_is_code len hb
theorem sc_wrong_part : FnScope ["book", "places", "pages", "tables", "entries", "code", "words", "one"] ["book", "places", "pages", "tables", "entries", "code"] (defScope s_wrong_part) := ⟨rfl, rfl, rfl, by decide +kernel, rfl, by decide +kernel, by decide +kernel⟩
theorem mk_wrong_part (T : Tx K mg) (len : ∀ vs H Q E, sp vs H Q E → vs.length = 6) (hb : ∀ f, BodyOk P w K mg base k ["book", "places", "pages", "tables", "entries", "code", "words", "one"] "wrong_part" s_wrong_part f sp) : Cal P w K mg base (k + 1) "wrong_part" sp [] := cal_mk T.f_wrong_part (fun _ _ _ _ _ _ us hl => match us, hl with | [_, _, _, _, _, _], _ => rfl) sc_wrong_part len hb
theorem sc_Meaning_init : FnScope ["self", "book", "places", "pages", "tables", "entries", "code", "part", "name", "arity", "told", "args"] ["self", "book", "places", "pages", "tables", "entries", "code"] (defScope s_Meaning_init) := ⟨rfl, rfl, rfl, by decide +kernel, rfl, by decide +kernel, by decide +kernel⟩
theorem mk_Meaning_init (T : Tx K mg) (len : ∀ vs H Q E, sp vs H Q E → vs.length = 7) (hb : ∀ f, BodyOk P w K mg base k ["self", "book", "places", "pages", "tables", "entries", "code", "part", "name", "arity", "told", "args"] "Meaning.__init__" s_Meaning_init f sp) : Mak P w K mg base (k + 1) "Meaning" (C_Meaning K) sp [] := mak_mk T.f_Meaning_init (fun _ _ _ _ _ _ us hl => match us, hl with | [_, _, _, _, _, _, _], _ => rfl) sc_Meaning_init len hb
theorem sc_Meaning_book : FnScope ["self"] ["self"] (defScope s_Meaning_book) := ⟨rfl, rfl, rfl, by decide +kernel, rfl, by decide +kernel, by decide +kernel⟩
theorem mk_Meaning_book (T : Tx K mg) (len : ∀ vs H Q E, sp vs H Q E → vs.length = 1) (hb : ∀ f, BodyOk P w K mg base k ["self"] "Meaning.book" s_Meaning_book f sp) : Met P w K mg base (k + 1) (C_Meaning K) "book" sp [] := met_mk T.f_Meaning_book (fun _ _ _ _ _ _ us hl => match us, hl with | [_], _ => rfl) sc_Meaning_book len hb
theorem sc_Meaning_places : FnScope ["self"] ["self"] (defScope s_Meaning_places) := ⟨rfl, rfl, rfl, by decide +kernel, rfl, by decide +kernel, by decide +kernel⟩
theorem mk_Meaning_places (T : Tx K mg) (len : ∀ vs H Q E, sp vs H Q E → vs.length = 1) (hb : ∀ f, BodyOk P w K mg base k ["self"] "Meaning.places" s_Meaning_places f sp) : Met P w K mg base (k + 1) (C_Meaning K) "places" sp [] := met_mk T.f_Meaning_places (fun _ _ _ _ _ _ us hl => match us, hl with | [_], _ => rfl) sc_Meaning_places len hb
theorem sc_Meaning_words : FnScope ["self"] ["self"] (defScope s_Meaning_words) := ⟨rfl, rfl, rfl, by decide +kernel, rfl, by decide +kernel, by decide +kernel⟩
theorem mk_Meaning_words (T : Tx K mg) (len : ∀ vs H Q E, sp vs H Q E → vs.length = 1) (hb : ∀ f, BodyOk P w K mg base k ["self"] "Meaning.words" s_Meaning_words f sp) : Met P w K mg base (k + 1) (C_Meaning K) "words" sp [] := met_mk T.f_Meaning_words (fun _ _ _ _ _ _ us hl => match us, hl with | [_], _ => rfl) sc_Meaning_words len hb
theorem sc_Meaning_is_word : FnScope ["self", "thing"] ["self", "thing"] (defScope s_Meaning_is_word) := ⟨rfl, rfl, rfl, by decide +kernel, rfl, by decide +kernel, by decide +kernel⟩
theorem mk_Meaning_is_word (T : Tx K mg) (len : ∀ vs H Q E, sp vs H Q E → vs.length = 2) (hb : ∀ f, BodyOk P w K mg base k ["self", "thing"] "Meaning.is_word" s_Meaning_is_word f sp) : Met P w K mg base (k + 1) (C_Meaning K) "is_word" sp [] := met_mk T.f_Meaning_is_word (fun _ _ _ _ _ _ us hl => match us, hl with | [_, _], _ => rfl) sc_Meaning_is_word len hb
theorem sc_Meaning_page : FnScope ["self", "address"] ["self", "address"] (defScope s_Meaning_page) := ⟨rfl, rfl, rfl, by decide +kernel, rfl, by decide +kernel, by decide +kernel⟩
theorem mk_Meaning_page (T : Tx K mg) (len : ∀ vs H Q E, sp vs H Q E → vs.length = 2) (hb : ∀ f, BodyOk P w K mg base k ["self", "address"] "Meaning.page" s_Meaning_page f sp) : Met P w K mg base (k + 1) (C_Meaning K) "page" sp [] := met_mk T.f_Meaning_page (fun _ _ _ _ _ _ us hl => match us, hl with | [_, _], _ => rfl) sc_Meaning_page len hb
theorem sc_Meaning_place : FnScope ["self", "address"] ["self", "address"] (defScope s_Meaning_place) := ⟨rfl, rfl, rfl, by decide +kernel, rfl, by decide +kernel, by decide +kernel⟩
theorem mk_Meaning_place (T : Tx K mg) (len : ∀ vs H Q E, sp vs H Q E → vs.length = 2) (hb : ∀ f, BodyOk P w K mg base k ["self", "address"] "Meaning.place" s_Meaning_place f sp) : Met P w K mg base (k + 1) (C_Meaning K) "place" sp [] := met_mk T.f_Meaning_place (fun _ _ _ _ _ _ us hl => match us, hl with | [_, _], _ => rfl) sc_Meaning_place len hb
theorem sc_Meaning_next : FnScope ["self", "address"] ["self", "address"] (defScope s_Meaning_next) := ⟨rfl, rfl, rfl, by decide +kernel, rfl, by decide +kernel, by decide +kernel⟩
theorem mk_Meaning_next (T : Tx K mg) (len : ∀ vs H Q E, sp vs H Q E → vs.length = 2) (hb : ∀ f, BodyOk P w K mg base k ["self", "address"] "Meaning.next" s_Meaning_next f sp) : Met P w K mg base (k + 1) (C_Meaning K) "next" sp [] := met_mk T.f_Meaning_next (fun _ _ _ _ _ _ us hl => match us, hl with | [_, _], _ => rfl) sc_Meaning_next len hb
theorem sc_Meaning_apply : FnScope ["self", "name", "args"] ["self", "name", "args"] (defScope s_Meaning_apply) := ⟨rfl, rfl, rfl, by decide +kernel, rfl, by decide +kernel, by decide +kernel⟩
theorem mk_Meaning_apply (T : Tx K mg) (len : ∀ vs H Q E, sp vs H Q E → vs.length = 3) (hb : ∀ f, BodyOk P w K mg base k ["self", "name", "args"] "Meaning.apply" s_Meaning_apply f sp) : Met P w K mg base (k + 1) (C_Meaning K) "apply" sp [] := met_mk T.f_Meaning_apply (fun _ _ _ _ _ _ us hl => match us, hl with | [_, _, _], _ => rfl) sc_Meaning_apply len hb
theorem sc_Meaning_code_of : FnScope ["self", "word"] ["self", "word"] (defScope s_Meaning_code_of) := ⟨rfl, rfl, rfl, by decide +kernel, rfl, by decide +kernel, by decide +kernel⟩
theorem mk_Meaning_code_of (T : Tx K mg) (len : ∀ vs H Q E, sp vs H Q E → vs.length = 2) (hb : ∀ f, BodyOk P w K mg base k ["self", "word"] "Meaning.code_of" s_Meaning_code_of f sp) : Met P w K mg base (k + 1) (C_Meaning K) "code_of" sp [] := met_mk T.f_Meaning_code_of (fun _ _ _ _ _ _ us hl => match us, hl with | [_, _], _ => rfl) sc_Meaning_code_of len hb
theorem sc_law_source : FnScope ["_law_script", "_law_mixed", "_law_cell", "_law_digits", "_law_k"] ["_law_script"] (defScope s_law_source) := ⟨rfl, rfl, rfl, by decide +kernel, rfl, by decide +kernel, by decide +kernel⟩
theorem mk_law_source (T : Tx K mg) (len : ∀ vs H Q E, sp vs H Q E → vs.length = 1) (hb : ∀ f, BodyOk P w K mg base k ["_law_script", "_law_mixed", "_law_cell", "_law_digits", "_law_k"] "_law_source" s_law_source f sp) : Cal P w K mg base (k + 1) "_law_source" sp [] := cal_mk T.f_law_source (fun _ _ _ _ _ _ us hl => match us, hl with | [_], _ => rfl) sc_law_source len hb
theorem sc_law_pick : FnScope ["_law_source_here", "_law_many", "_law_digits", "_law_left", "_law_turn", "_law_mixed"] ["_law_source_here", "_law_many"] (defScope s_law_pick) := ⟨rfl, rfl, rfl, by decide +kernel, rfl, by decide +kernel, by decide +kernel⟩
theorem mk_law_pick (T : Tx K mg) (len : ∀ vs H Q E, sp vs H Q E → vs.length = 2) (hb : ∀ f, BodyOk P w K mg base k ["_law_source_here", "_law_many", "_law_digits", "_law_left", "_law_turn", "_law_mixed"] "_law_pick" s_law_pick f sp) : Cal P w K mg base (k + 1) "_law_pick" sp [] := cal_mk T.f_law_pick (fun _ _ _ _ _ _ us hl => match us, hl with | [_, _], _ => rfl) sc_law_pick len hb
theorem sc_law_menu : FnScope ["_law_is_wrong", "_law_a", "_law_b", "_law_c", "_law_t", "_law_u", "_law_stop", "_law_rows", "_law_found", "_law_pairs", "_law_name", "_law_special", "_law_back", "_law_look", "_law_call", "_law_keep", "_law_operands", "_law_same"] ["_law_is_wrong"] (defScope s_law_menu) := ⟨rfl, rfl, rfl, by decide +kernel, rfl, by decide +kernel, by decide +kernel⟩
theorem mk_law_menu (T : Tx K mg) (len : ∀ vs H Q E, sp vs H Q E → vs.length = 1) (hb : ∀ f, BodyOk P w K mg base k ["_law_is_wrong", "_law_a", "_law_b", "_law_c", "_law_t", "_law_u", "_law_stop", "_law_rows", "_law_found", "_law_pairs", "_law_name", "_law_special", "_law_back", "_law_look", "_law_call", "_law_keep", "_law_operands", "_law_same"] "_law_menu" s_law_menu f sp) : Cal P w K mg base (k + 1) "_law_menu" sp [] := cal_mk T.f_law_menu (fun _ _ _ _ _ _ us hl => match us, hl with | [_], _ => rfl) sc_law_menu len hb
theorem sc_law_ref : FnScope ["_law_source_here", "_law_operands", "_law_some", "_law_k"] ["_law_source_here", "_law_operands"] (defScope s_law_ref) := ⟨rfl, rfl, rfl, by decide +kernel, rfl, by decide +kernel, by decide +kernel⟩
theorem mk_law_ref (T : Tx K mg) (len : ∀ vs H Q E, sp vs H Q E → vs.length = 2) (hb : ∀ f, BodyOk P w K mg base k ["_law_source_here", "_law_operands", "_law_some", "_law_k"] "_law_ref" s_law_ref f sp) : Cal P w K mg base (k + 1) "_law_ref" sp [] := cal_mk T.f_law_ref (fun _ _ _ _ _ _ us hl => match us, hl with | [_, _], _ => rfl) sc_law_ref len hb
theorem sc_law_drawn_row : FnScope ["_law_source_here", "_law_operands", "_law_deep", "_law_d", "_law_s", "_law_specials", "_law_way", "_law_special", "_law_rows"] ["_law_source_here", "_law_operands", "_law_deep"] (defScope s_law_drawn_row) := ⟨rfl, rfl, rfl, by decide +kernel, rfl, by decide +kernel, by decide +kernel⟩
theorem mk_law_drawn_row (T : Tx K mg) (len : ∀ vs H Q E, sp vs H Q E → vs.length = 3) (hb : ∀ f, BodyOk P w K mg base k ["_law_source_here", "_law_operands", "_law_deep", "_law_d", "_law_s", "_law_specials", "_law_way", "_law_special", "_law_rows"] "_law_drawn_row" s_law_drawn_row f sp) : Cal P w K mg base (k + 1) "_law_drawn_row" sp [] := cal_mk T.f_law_drawn_row (fun _ _ _ _ _ _ us hl => match us, hl with | [_, _, _], _ => rfl) sc_law_drawn_row len hb
theorem sc_law_drawn_rows : FnScope ["_law_source_here", "_law_operands", "_law_most", "_law_deep", "_law_many", "_law_found", "_law_k"] ["_law_source_here", "_law_operands", "_law_most", "_law_deep"] (defScope s_law_drawn_rows) := ⟨rfl, rfl, rfl, by decide +kernel, rfl, by decide +kernel, by decide +kernel⟩
theorem mk_law_drawn_rows (T : Tx K mg) (len : ∀ vs H Q E, sp vs H Q E → vs.length = 4) (hb : ∀ f, BodyOk P w K mg base k ["_law_source_here", "_law_operands", "_law_most", "_law_deep", "_law_many", "_law_found", "_law_k"] "_law_drawn_rows" s_law_drawn_rows f sp) : Cal P w K mg base (k + 1) "_law_drawn_rows" sp [] := cal_mk T.f_law_drawn_rows (fun _ _ _ _ _ _ us hl => match us, hl with | [_, _, _, _], _ => rfl) sc_law_drawn_rows len hb
theorem sc_law_with_meaning : FnScope ["_law_source_here", "_law_house_here", "_law_places", "_law_pages", "_law_words", "_law_lists", "_law_word", "_law_turn", "_law_entries", "_law_code", "_law_rights", "_law_name", "_law_operands", "_law_k"] ["_law_source_here", "_law_house_here"] (defScope s_law_with_meaning) := ⟨rfl, rfl, rfl, by decide +kernel, rfl, by decide +kernel, by decide +kernel⟩
theorem mk_law_with_meaning (T : Tx K mg) (len : ∀ vs H Q E, sp vs H Q E → vs.length = 2) (hb : ∀ f, BodyOk P w K mg base k ["_law_source_here", "_law_house_here", "_law_places", "_law_pages", "_law_words", "_law_lists", "_law_word", "_law_turn", "_law_entries", "_law_code", "_law_rights", "_law_name", "_law_operands", "_law_k"] "_law_with_meaning" s_law_with_meaning f sp) : Cal P w K mg base (k + 1) "_law_with_meaning" sp [] := cal_mk T.f_law_with_meaning (fun _ _ _ _ _ _ us hl => match us, hl with | [_, _], _ => rfl) sc_law_with_meaning len hb
theorem sc_law_house : FnScope ["_law_source_here", "_law_is_wrong", "_law_many", "_law_menu_here", "_law_found", "_law_name", "_law_operands", "_law_user", "_law_system", "_law_primitives", "_law_house_here"] ["_law_source_here", "_law_is_wrong", "_law_many"] (defScope s_law_house) := ⟨rfl, rfl, rfl, by decide +kernel, rfl, by decide +kernel, by decide +kernel⟩
theorem mk_law_house (T : Tx K mg) (len : ∀ vs H Q E, sp vs H Q E → vs.length = 3) (hb : ∀ f, BodyOk P w K mg base k ["_law_source_here", "_law_is_wrong", "_law_many", "_law_menu_here", "_law_found", "_law_name", "_law_operands", "_law_user", "_law_system", "_law_primitives", "_law_house_here"] "_law_house" s_law_house f sp) : Cal P w K mg base (k + 1) "_law_house" sp [] := cal_mk T.f_law_house (fun _ _ _ _ _ _ us hl => match us, hl with | [_, _, _], _ => rfl) sc_law_house len hb
theorem sc_law_eased : FnScope ["_law_source_here", "_law_house_here", "_law_entries", "_law_code", "_law_word", "_law_name", "_law_operands", "_law_found", "_law_k"] ["_law_source_here", "_law_house_here"] (defScope s_law_eased) := ⟨rfl, rfl, rfl, by decide +kernel, rfl, by decide +kernel, by decide +kernel⟩
theorem mk_law_eased (T : Tx K mg) (len : ∀ vs H Q E, sp vs H Q E → vs.length = 2) (hb : ∀ f, BodyOk P w K mg base k ["_law_source_here", "_law_house_here", "_law_entries", "_law_code", "_law_word", "_law_name", "_law_operands", "_law_found", "_law_k"] "_law_eased" s_law_eased f sp) : Cal P w K mg base (k + 1) "_law_eased" sp [] := cal_mk T.f_law_eased (fun _ _ _ _ _ _ us hl => match us, hl with | [_, _], _ => rfl) sc_law_eased len hb
theorem sc_law_any_house : FnScope ["_law_source_here", "_law_is_wrong", "_law_many", "_law_house_here"] ["_law_source_here", "_law_is_wrong", "_law_many"] (defScope s_law_any_house) := ⟨rfl, rfl, rfl, by decide +kernel, rfl, by decide +kernel, by decide +kernel⟩
theorem mk_law_any_house (T : Tx K mg) (len : ∀ vs H Q E, sp vs H Q E → vs.length = 3) (hb : ∀ f, BodyOk P w K mg base k ["_law_source_here", "_law_is_wrong", "_law_many", "_law_house_here"] "_law_any_house" s_law_any_house f sp) : Cal P w K mg base (k + 1) "_law_any_house" sp [] := cal_mk T.f_law_any_house (fun _ _ _ _ _ _ us hl => match us, hl with | [_, _, _], _ => rfl) sc_law_any_house len hb
theorem sc_law_box : FnScope ["_law_source_here", "_law_house_here", "_law_words", "_law_frames", "_law_k", "_law_specials", "_law_name", "_law_queues", "_law_n"] ["_law_source_here", "_law_house_here"] (defScope s_law_box) := ⟨rfl, rfl, rfl, by decide +kernel, rfl, by decide +kernel, by decide +kernel⟩
theorem mk_law_box (T : Tx K mg) (len : ∀ vs H Q E, sp vs H Q E → vs.length = 2) (hb : ∀ f, BodyOk P w K mg base k ["_law_source_here", "_law_house_here", "_law_words", "_law_frames", "_law_k", "_law_specials", "_law_name", "_law_queues", "_law_n"] "_law_box" s_law_box f sp) : Cal P w K mg base (k + 1) "_law_box" sp [] := cal_mk T.f_law_box (fun _ _ _ _ _ _ us hl => match us, hl with | [_, _], _ => rfl) sc_law_box len hb
theorem sc_law_parts : FnScope ["_law_box_here"] ["_law_box_here"] (defScope s_law_parts) := ⟨rfl, rfl, rfl, by decide +kernel, rfl, by decide +kernel, by decide +kernel⟩
theorem mk_law_parts (T : Tx K mg) (len : ∀ vs H Q E, sp vs H Q E → vs.length = 1) (hb : ∀ f, BodyOk P w K mg base k ["_law_box_here"] "_law_parts" s_law_parts f sp) : Cal P w K mg base (k + 1) "_law_parts" sp [] := cal_mk T.f_law_parts (fun _ _ _ _ _ _ us hl => match us, hl with | [_], _ => rfl) sc_law_parts len hb
theorem sc_law : FnScope ["_law_script", "_law_source_here", "_law_turn", "_law_house_here", "_law_meaning", "_law_names", "_law_doubted", "_law_frames", "_law_specials", "_law_queues", "_law_registers", "_law_place", "_law_mapping", "_law_page", "_law_first", "_law_last", "_law_before", "_law_early", "_law_late", "_law_word", "_law_spots", "_law_one", "_law_name", "_law_k"] ["_law_script"] (defScope s_law) := ⟨rfl, rfl, rfl, by decide +kernel, rfl, by decide +kernel, by decide +kernel⟩
theorem mk_law (T : Tx K mg) (len : ∀ vs H Q E, sp vs H Q E → vs.length = 1) (hb : ∀ f, BodyOk P w K mg base k ["_law_script", "_law_source_here", "_law_turn", "_law_house_here", "_law_meaning", "_law_names", "_law_doubted", "_law_frames", "_law_specials", "_law_queues", "_law_registers", "_law_place", "_law_mapping", "_law_page", "_law_first", "_law_last", "_law_before", "_law_early", "_law_late", "_law_word", "_law_spots", "_law_one", "_law_name", "_law_k"] "law" s_law f sp) : Cal P w K mg base (k + 1) "law" sp [] := cal_mk T.f_law (fun _ _ _ _ _ _ us hl => match us, hl with | [_], _ => rfl) sc_law len hb
theorem mk_BoxView_word_at (T : Tx K mg) (len : ∀ vs H Q E, sp vs H Q E → vs.length = 2) (hb : ∀ f, BodyOk P w K mg base k ["self", "spot"] "View.word_at" s_View_word_at f sp) : Met P w K mg base (k + 1) (C_BoxView K) "word_at" sp [] := met_mk T.f_BoxView_word_at (fun _ _ _ _ _ _ us hl => match us, hl with | [_, _], _ => rfl) sc_View_word_at len hb
end
end W73
set_option Elab.async false
set_option linter.all false
set_option maxRecDepth 100000
set_option maxHeartbeats 4000000
namespace W73
open PySem PySem.Spec PyProof.Rows L2
open C8 (Cal Met Mak pe_c pe_mk pe_mt pe_mt0 pe_gc pss_cut tCut)
/-! ### heaps -/
theorem Same.new {H : Hp} {p : Addr} {o : HO} (h : H p = none) : Same H (upd H p o) := fun b u e => by
  rw [upd_ne (ne_of_none e h)]
  exact e
/-- what H does not know may change -/
theorem Same.mut {H H' : Hp} {p : Addr} {o : HO} (e : Same H H') (h : H p = none) : Same H (upd H' p o) := fun b u q => by
  rw [upd_ne (ne_of_none q h)]
  exact e b u q
theorem Same.seqT {K : PySem.W.Frag} {H H' : Hp} {a : Addr} {xs : List V} (e : Same H H') (h : SqT K H a xs) : SqT K H' a xs := by
  rcases h with (h | ⟨o, h⟩) | h
  · exact .inl (.inl (e _ _ h))
  · exact .inl (.inr ⟨o, e _ _ h⟩)
  · exact .inr h
/-! ### promises by their arguments -/
abbrev sp0 (R : Hp → VK → Prop) : Sp := fun vs H Q _ => vs = [] ∧ R H Q
abbrev sp1 (R : V → Hp → VK → Prop) : Sp := fun vs H Q _ => ∃ a, vs = [a] ∧ R a H Q
abbrev sp2 (R : V → V → Hp → VK → Prop) : Sp := fun vs H Q _ => ∃ a b, vs = [a, b] ∧ R a b H Q
abbrev sp3 (R : V → V → V → Hp → VK → Prop) : Sp := fun vs H Q _ => ∃ a b c, vs = [a, b, c] ∧ R a b c H Q
abbrev sp4 (R : V → V → V → V → Hp → VK → Prop) : Sp := fun vs H Q _ => ∃ a b c d, vs = [a, b, c, d] ∧ R a b c d H Q
abbrev sp5 (R : V → V → V → V → V → Hp → VK → Prop) : Sp := fun vs H Q _ => ∃ a b c d e, vs = [a, b, c, d, e] ∧ R a b c d e H Q
abbrev sp6 (R : V → V → V → V → V → V → Hp → VK → Prop) : Sp := fun vs H Q _ => ∃ a b c d e f, vs = [a, b, c, d, e, f] ∧ R a b c d e f H Q
abbrev sp7 (R : V → V → V → V → V → V → V → Hp → VK → Prop) : Sp := fun vs H Q _ => ∃ a b c d e f g, vs = [a, b, c, d, e, f, g] ∧ R a b c d e f g H Q
theorem len1 {R : V → Hp → VK → Prop} : ∀ vs H Q E, sp1 R vs H Q E → vs.length = 1 := by rintro vs H Q E ⟨a, rfl, _⟩; rfl
theorem len2 {R : V → V → Hp → VK → Prop} : ∀ vs H Q E, sp2 R vs H Q E → vs.length = 2 := by rintro vs H Q E ⟨a, b, rfl, _⟩; rfl
theorem len3 {R : V → V → V → Hp → VK → Prop} : ∀ vs H Q E, sp3 R vs H Q E → vs.length = 3 := by rintro vs H Q E ⟨a, b, c, rfl, _⟩; rfl
theorem len4 {R : V → V → V → V → Hp → VK → Prop} : ∀ vs H Q E, sp4 R vs H Q E → vs.length = 4 := by rintro vs H Q E ⟨a, b, c, d, rfl, _⟩; rfl
theorem len5 {R : V → V → V → V → V → Hp → VK → Prop} : ∀ vs H Q E, sp5 R vs H Q E → vs.length = 5 := by rintro vs H Q E ⟨a, b, c, d, e, rfl, _⟩; rfl
theorem len6 {R : V → V → V → V → V → V → Hp → VK → Prop} : ∀ vs H Q E, sp6 R vs H Q E → vs.length = 6 := by rintro vs H Q E ⟨a, b, c, d, e, f, rfl, _⟩; rfl
theorem len7 {R : V → V → V → V → V → V → V → Hp → VK → Prop} : ∀ vs H Q E, sp7 R vs H Q E → vs.length = 7 := by rintro vs H Q E ⟨a, b, c, d, e, f, g, rfl, _⟩; rfl
/-! ### isinstance(e, T), T a built-in type -/
def rIsT (K : PySem.W.Frag) : List V → Hp → VK → Prop := fun xs H Q => ∃ (x : V) (T t : String) (b : Bool), xs = [x, .ty T] ∧ TyX K H x (.type t) ∧ kitB t T = some b ∧ Q (.bl b) H
theorem cr_isT {X : Cx} : CallR X (.builtin "isinstance") (rIsT X.K) := by
  intro pins s σ H xs us Q I r h
  obtain ⟨x, T, t, b, rfl, ty, e, q⟩ := h
  exact call_isi pins s σ H _ us Q I r ⟨x, .ty T, .type t, .type T, b, rfl, .ty T, ty, kit_ty e, q⟩
/-- isinstance(e, T) -/
theorem pe_is {X : Cx} {e : Expr} {te : TE} {x : Str} {T : String} {p p2 pos : Pos} (hm : X.mg "isinstance" = none) (hm2 : X.mg x = none) (hv2 : bootBuiltins x = some (.type T)) (he : PE X e te)
    (hg : Gl X "isinstance" := by rfl) (hg2 : Gl X x := by rfl) (hn2 : x ≠ "__name__" := by decide) (hdb2 : (x == ("__debug__" : Str)) = false := by decide)
    (h1 : starEach [e, .Name x p2] X.env = (false, eval e X.env) :: starEach [.Name x p2] X.env := by rfl) (h2 : starEach [.Name x p2] X.env = (false, eval (.Name x p2) X.env) :: starEach [] X.env := by rfl) (h3 : (backTo pos (starEach [.Name x p2] X.env)).any (·.1) = false := by rfl) :
    PE X (.Call (.Name "isinstance" p) [e, .Name x p2] [] pos) (tCB (rIsT X.K) (tCons te (tCons (tC (.ty T)) tNil))) :=
  pe_callB (pos := pos) (p := p) cr_isT hg hm boot_isinstance (pa_cons he (pa_cons (pe_bltn (v := .ty T) hg2 hm2 hv2 rfl hn2 hdb2) pa_nil h2) h1) (he := h1) (hpl := h3)
theorem ki_ii : kitB "int" "int" = some true := by decide +kernel
theorem ki_ib : kitB "int" "bool" = some false := by decide +kernel
theorem ki_ss : kitB "str" "str" = some true := by decide +kernel
theorem ki_tt : kitB "tuple" "tuple" = some true := by decide +kernel
theorem ki_dd : kitB "dict" "dict" = some true := by decide +kernel
theorem ki_tl : kitB "tuple" "list" = some false := by decide +kernel
theorem ki_ll : kitB "list" "list" = some true := by decide +kernel
end W73
set_option Elab.async false
set_option linter.all false
set_option maxRecDepth 100000
set_option maxHeartbeats 4000000
namespace W73
open PySem PySem.Spec PyProof.Rows L2
open C8 (Cal Met Mak pe_c pe_mk pe_mt pe_mt0 pe_gc pss_cut tCut)
/-! ### x in d, d a dict; x in names, names a list, a tuple or a dict -/
def rInD : R2 := fun x y H Q => ∃ a o, y = .ref a ∧ DGet H a x o ∧ Q (.bl o.isSome) H
theorem op_in_dict {X : Cx} (hu : X.A.units + 1 < cLine) : OpR X (compareOp .In) rInD := by
  intro pins s σ H x y v u Q I rx ry h
  obtain ⟨a, o, rfl, g, q⟩ := h
  obtain rfl : u = Value.ref a := ry
  exact d_in hu I g rx fun s' I' => ⟨.bl o.isSome, H, I', rfl, q⟩
theorem op_inAny {X : Cx} (hu : X.A.units + 1 < cLine) : OpR X (compareOp .In) (fun x y H Q => rIn X.K false x y H Q ∨ rInD x y H Q) := op_in_seq.or (op_in_dict hu)
/-! ### isinstance(e, (list, tuple)) -/
theorem ka_ll {K : PySem.W.Frag} : PySem.W.kitAny K (.type "list") [.type "list", .type "tuple"] = some true := kitAny_cons (b := true) (kit_ty ki_ll) (fun z => by cases z) fun _ => rfl
theorem ka_tl {K : PySem.W.Frag} : PySem.W.kitAny K (.type "tuple") [.type "list", .type "tuple"] = some true := kitAny_cons (b := false) (kit_ty ki_tl) (fun _ => kitAny_cons (b := true) (kit_ty ki_tt) (fun z => by cases z) fun _ => rfl) fun z => by cases z
/-- a list or a tuple that H tracks -/
def LT (H : Hp) (x : V) : Prop := ∃ a xs, x = .ref a ∧ (H a = some (.lst xs) ∨ H a = some (.tup xs))
def rIsLT : List V → Hp → VK → Prop := fun xs H Q => ∃ (x : V) (tp : Addr), xs = [x, .ref tp] ∧ H tp = some (.tup [.ty "list", .ty "tuple"]) ∧ LT H x ∧ Q (.bl true) H
theorem cr_isLT {X : Cx} : CallR X (.builtin "isinstance") rIsLT := by
  intro pins s σ H xs us Q I r h
  obtain ⟨x, tp, rfl, hT, ⟨a, ys, rfl, hx⟩, q⟩ := h
  rcases hx with hx | hx
  · exact call_isiT pins s σ H _ us Q I r ⟨.ref a, tp, _, .type "list", [.type "list", .type "tuple"], true, rfl, hT, .cons (.ty _) (.cons (.ty _) .nil), .base (.lst hx), ka_ll, q⟩
  · exact call_isiT pins s σ H _ us Q I r ⟨.ref a, tp, _, .type "tuple", [.type "list", .type "tuple"], true, rfl, hT, .cons (.ty _) (.cons (.ty _) .nil), .base (.tup hx), ka_tl, q⟩
theorem pe_isLT {X : Cx} {e : Expr} {te : TE} {k : Nat} {p p1 p2 p3 pos : Pos} (hm : X.mg "isinstance" = none) (hm1 : X.mg "list" = none) (hm2 : X.mg "tuple" = none) (he : PE X e te)
    (hg : Gl X "isinstance" := by rfl) (hg1 : Gl X "list" := by rfl) (hg2 : Gl X "tuple" := by rfl) (h1 : starEach [e, .Tuple [.Name "list" p1, .Name "tuple" p2] k p3] X.env = (false, eval e X.env) :: starEach [.Tuple [.Name "list" p1, .Name "tuple" p2] k p3] X.env := by rfl)
    (h2 : starEach [.Tuple [.Name "list" p1, .Name "tuple" p2] k p3] X.env = (false, eval (.Tuple [.Name "list" p1, .Name "tuple" p2] k p3) X.env) :: starEach [] X.env := by rfl)
    (h3 : (backTo pos (starEach [.Tuple [.Name "list" p1, .Name "tuple" p2] k p3] X.env)).any (·.1) = false := by rfl)
    (h4 : starEach [.Name "list" p1, .Name "tuple" p2] X.env = (false, eval (.Name "list" p1) X.env) :: starEach [.Name "tuple" p2] X.env := by rfl) (h5 : starEach [.Name "tuple" p2] X.env = (false, eval (.Name "tuple" p2) X.env) :: starEach [] X.env := by rfl) :
    PE X (.Call (.Name "isinstance" p) [e, .Tuple [.Name "list" p1, .Name "tuple" p2] k p3] [] pos) (tCB rIsLT (tCons te (tCons (tTup (tCons (tC (.ty "list")) (tCons (tC (.ty "tuple")) tNil))) tNil))) :=
  pe_callB (pos := pos) (p := p) cr_isLT hg hm boot_isinstance (pa_cons he (pa_cons (pe_tup (pa_cons (pe_bltn (v := .ty "list") hg1 hm1 boot_list rfl) (pa_cons (pe_bltn (v := .ty "tuple") hg2 hm2 boot_tuple rfl) pa_nil h5) h4)) pa_nil h2) h1) (he := h1) (hpl := h3)
/-! ### o.f = .., a target of its own -/
def gFld (K : PySem.W.Frag) (to : TE) (f : Str) : TG := fun v σ H Q => to σ H fun x H2 => ∃ a C dx fs, x = .ref a ∧ H2 a = some (.ins C dx fs) ∧ Cls K C ∧ NoAttr K C f ∧ fs.length < 1000 ∧ Q σ (upd H2 a (.ins C dx (putF f v fs)))
theorem pg_fld {X : Cx} {o : Expr} {f : Str} {to : TE} {pos : Pos} (ho : PE X o to) : PG X (.Attribute o f pos) (gFld X.K to f) := by
  refine ⟨fun pins s σ H v u Q I r h => ?_⟩
  rw [assign_Attribute]
  refine wpAny_bind (wpAny_holding (thn (ho.run pins s σ H _ I h) fun ov s1 ⟨x, H1, I1, r1, a, C, dx, fs, ex, ea, hc, hn, hl, q⟩ => ?_))
  subst ex
  obtain rfl : ov = Value.ref a := r1
  refine wpAny_bind (wpAny_standAt (wpAny_bind (wpAny_holding (setattr_ok I1 ea hc hn hl r fun s2 I2 => ?_))))
  exact wpAny_release ⟨σ, _, I2, q⟩
/-! ### d.update(e), two dicts -/
def rUpdD : V → List V → Hp → VK → Prop := fun x vs H Q => ∃ (d e : Addr) (kvs more : List (Key × V)), x = .ref d ∧ vs = [.ref e] ∧ d ≠ e ∧ H d = some (.dK kvs) ∧ H e = some (.dK more) ∧ kvs.length + more.length ≤ sizeLine ∧ Q .non (upd H d (.dK (mergeK kvs more)))
theorem mt_update {X : Cx} : MtR X "dict.update" rUpdD := by
  intro pins s σ H x vs v us Q I rx rv h
  obtain ⟨d, e, kvs, more, rfl, rfl, ne, hd, he, hz, q⟩ := h
  obtain rfl : v = Value.ref d := rx
  obtain ⟨u, rfl, ru⟩ := rv.one
  obtain rfl : u = Value.ref e := ru
  obtain ⟨z, lo, va, ra, da⟩ := dk_of I.hok hd
  obtain ⟨z2, lo2, vb, rb, db⟩ := dk_of I.hok he
  refine call_meetsIn PySem.F.slot_dict_update da.typeIs PySem.F.entry_dict_update (PySem.F.args_dict_update_2 _ _) (meets_dict_update (mixKind X.prog X.w) d e ne lo2) ⟨va, vb, da, db, (by rw [← ra.length, ← rb.length]; exact hz), fun h' hm _ hs => ?_⟩
  have he : ∃ q, h'.get? d = some q := let ⟨q, _, _, hq, _⟩ := hm; ⟨q, hq⟩
  have hl : (mergeK kvs more).length ≤ sizeLine := Nat.le_trans (length_mergeK more kvs) hz
  exact ⟨.non, _, d_write (t' := s.toks) I (by rw [hd]; exact True.intro) hs he (dk_new hl lo (KV.merge rb ra) hm), rfl, q⟩
end W73
set_option Elab.async false
set_option linter.all false
set_option maxRecDepth 100000
set_option maxHeartbeats 4000000
namespace W73
open PySem PySem.Spec PyProof.Rows L2
open C8 (Cal Met Mak pe_c pe_mk pe_mt pe_mt0 pe_gc pss_cut tCut)
/-! ### enumerate(t), t a tuple -/
theorem meets_enum_newT (l : Addr) (items : Array Value) : Meets (Builtin.«enumerate.__new__» ⟨[.type "enumerate", .ref l], []⟩) (fun _ R s => s.heap.IsTuple l items ∧
      R (.ok (.ret (.ref (s.heap.push { cls := .type "tuple_iterator", data := .fields #[.ref l, .int 0 0] }).objs.size)))
        { s with heap := (s.heap.push { cls := .type "tuple_iterator", data := .fields #[.ref l, .int 0 0] }).push { cls := .type "enumerate", data := .fields #[.none, .bool false, .ref s.heap.objs.size, rawInt 0, .none, .none] } }) :=
  .of_wp fun prog w A R s h => by
    obtain ⟨hp, g, d, tk, os⟩ := s
    obtain ⟨hL, h⟩ := h
    have hsub := sub_enumerate
    wp_walk
    refine wpAny_stack_any fun st => wpAny_pure ?_
    split
    · rename_i c _ _ _ _ _
      cases (c == Value.type "enumerate") <;> (wp_walk using wpAny_pyIter_tuple hL; exact ⟨_, rfl, h⟩)
    · wp_walk using wpAny_pyIter_tuple hL
      exact ⟨_, rfl, h⟩
theorem call_enum_tuple {prog : Program} {w : World} {A : Around} {E : Value → Shared → Prop} {s : Shared} {l : Addr} {items : Array Value} {Q : Value → Shared → Prop} (hL : s.heap.IsTuple l items)
    (h : ∀ h', IsEnum h' (s.heap.objs.size + 1) s.heap.objs.size 0 .none → h'.IsTupleIter s.heap.objs.size l 0 → h'.objs.size = s.heap.objs.size + 2 →
      (∀ b o, s.heap.get? b = some o → h'.get? b = some o) → Q (.ref (s.heap.objs.size + 1)) { s with heap := h' }) :
    wpAny (model prog w) A (call (.type "enumerate") [.ref l]) Q E s := by
  refine callType_new F.called_enumerate (by decide) (F.typeCall_enumerate_1 _) (F.newCall_enumerate_1 _) (fun obj => F.args_object_init_2 obj _) F.entry_enumerate_new (meets_enum_newT l items) ⟨hL, ?_⟩
  have hz : (s.heap.push { cls := .type "tuple_iterator", data := .fields #[.ref l, .int 0 0] }).objs.size = s.heap.objs.size + 1 := Heap.size_push ..
  show _ ∧ _
  rw [hz]
  have he : IsEnum ((s.heap.push { cls := .type "tuple_iterator", data := .fields #[.ref l, .int 0 0] }).push
      { cls := .type "enumerate", data := .fields #[.none, .bool false, .ref s.heap.objs.size, rawInt 0, .none, .none] }) (s.heap.objs.size + 1) s.heap.objs.size 0 .none := by
    have e := Heap.get?_push_size (s.heap.push { cls := .type "tuple_iterator", data := .fields #[.ref l, .int 0 0] }) (o := { cls := .type "enumerate", data := .fields #[.none, .bool false, .ref s.heap.objs.size, rawInt 0, .none, .none] }) rfl
    rw [hz] at e
    exact e
  refine ⟨⟨_, he, rfl⟩, h _ he ⟨_, Heap.get?_push_of_some _ (Heap.get?_push_size _ rfl), rfl, rfl⟩ (by rw [Heap.size_push, hz]) fun b o x => Heap.get?_push_of_some _ (Heap.get?_push_of_some _ x)⟩
/-- the tuple at a, each item in a new pair -/
def ItT (K : PySem.W.Frag) (a : Addr) : It :=
  ⟨fun i H => ∃ (xs : List V) (x : V), SqT K H a xs ∧ xs[i]? = some x, fun i H v H' => ∃ T x, v = .ref T ∧ H T = none ∧ H' = upd H T (.tup [.int (i : Nat), x]) ∧ ∀ xs, SqT K H a xs → xs[i]? = some x, fun i H => ∃ xs : List V, SqT K H a xs ∧ xs.length ≤ i⟩
theorem turn_enumT {P : Program} {w : World} {K : PySem.W.Frag} {elts : List Expr} {kk : Nat} {tpos : Pos} (a e it : Addr) :
    Turn P w K (.Tuple elts kk tpos) (ItT K a) [e, it] e (fun i h => (∃ old, IsEnum h e it ((i : Nat) : Int) old) ∧ h.IsTupleIter it a i ∧ e ≠ it) where
  mem := by simp
  obj := fun i h st b hb => by
    obtain ⟨⟨old, he⟩, ⟨o, ho, hc, hd⟩, _⟩ := st
    have e' : b = e ∨ b = it := by simpa using hb
    rcases e' with z | z
    · rw [z]; exact ⟨_, he, fun v q => nomatch q⟩
    · rw [z]; exact ⟨o, ho, fun v q => by rw [hd] at q; cases q⟩
  keep := fun i h h' st k => let ⟨⟨old, he⟩, hi, hne⟩ := st; ⟨⟨old, k e (by simp) _ he⟩, hi.at fun o q => k it (by simp) o q, hne⟩
  item := by
    intro X hP hw hK hc i pins s σ H E I hf st hg
    subst hP hw hK
    obtain ⟨⟨old, he⟩, hit, hne⟩ := st
    obtain ⟨xs, x, hq, hx⟩ := hg
    obtain ⟨its, rv, p, hz⟩ := I.tuple hq
    have hel : e < s.heap.objs.size := Heap.lt_size he
    have hil : it < s.heap.objs.size := by obtain ⟨_, q, _⟩ := hit; exact Heap.lt_size q
    have hIT : s.heap.IsTuple a its.toArray := p
    have nea : a ≠ it := by
      rintro rfl
      obtain ⟨o1, e1, c1, d1⟩ := hit
      obtain ⟨o2, e2, c2, n2, d2⟩ := hIT
      rw [e1] at e2
      cases e2
      rw [d1] at d2
      cases d2
    have hlt : i < its.toArray.size := by
      rw [List.size_toArray, ← rv.length]
      exact (List.getElem?_eq_some_iff.mp hx).1
    have hd : X.A.in1.handled = none := I.ok.hd hc
    have nae : a ≠ e := by
      rintro rfl
      obtain ⟨o2, e2, c2, n2, d2⟩ := hIT
      rw [he] at e2
      cases e2
      cases d2
    refine wpAny_pyNext_enum_itemD (Draws.tuple hd it a nea its.toArray) he ⟨hit, hIT⟩ hlt hne (by simp [hne, nae.symm]) fun u h' tk hu ho hst hT hsz hk => ?_
    obtain ⟨hit', _⟩ := hst
    have ru : RelV x u := by
      obtain ⟨u2, hu2, ru2⟩ := rv.get hx
      have e3 : its.toArray[i]? = some u2 := by simpa using hu2
      rw [hu] at e3
      cases e3
      exact ru2
    refine ⟨_, rfl, wpAny_letOwnedTupleGo_enum (s := { s with heap := h', toks := tk + 1 }) ho fun h'' he' sb => ?_⟩
    have hT2 : h''.get? s.heap.objs.size = some { cls := .type "tuple", data := .seq #[.int i tk, u] } := (sb.2 _ (Nat.ne_of_gt hel)).trans hT
    have new : ObjOk X.prog X.w (upd H s.heap.objs.size (.tup [.int (i : Nat), x])) h'' s.heap.objs.size (.tup [.int (i : Nat), x]) :=
      ⟨by show 2 ≤ sizeLine; decide, [.int i tk, u], .cons ⟨_, rfl⟩ (.cons ru .nil), ⟨_, hT2, rfl, _, rfl⟩⟩
    have I1 : Inv X pins σ (upd H s.heap.objs.size (.tup [.int (i : Nat), x])) { s with heap := h'', toks := tk + 1 } :=
      I.turnedNew (ch := [e, it]) (fun b ob hb q => (sb.2 b (fun z => hb (by simp [z]))).trans (hk b ob (fun z => hb (by simp [z])) (fun z => hb (by simp [z])) q)) hf (Nat.le_refl _) new
    refine ⟨.ref s.heap.objs.size, _, I1, rfl, ⟨_, x, rfl, I.hok.fresh (Nat.le_refl _), rfl, fun ys hy => by rw [I.tuple_inj hy hq]; exact hx⟩, ⟨⟨u, ?_⟩, hit'.at fun o q => (sb.2 it (Ne.symm hne)).trans q, hne⟩, fun b hb => ?_⟩
    · have e1 : ((i + 1 : Nat) : Int) = (i : Int) + 1 := by omega
      rw [e1]; exact he'
    · have hb' : b < s.heap.objs.size := by
        have e' : b = e ∨ b = it := by simpa using hb
        rcases e' with z | z
        · rw [z]; exact hel
        · rw [z]; exact hil
      rw [upd_ne (Nat.ne_of_lt hb')]
      exact (hf b hb).1
  done := by
    intro X hP hw hK hc i pins s σ H E I hf st hg
    subst hP hw hK
    obtain ⟨⟨old, he⟩, hit, hne⟩ := st
    obtain ⟨xs, hq, hx⟩ := hg
    obtain ⟨its, rv, p, hz⟩ := I.tuple hq
    obtain ⟨f0, f1, f2, f3, f4, f5⟩ := hf it (by simp)
    have hl := rv.length
    have hd : X.A.in1.handled = none := I.ok.hd hc
    have hIT : s.heap.IsTuple a its.toArray := p
    unfold pyNext
    have hT : s.TypeIs (.ref e) "enumerate" := ⟨_, he, rfl⟩
    refine wpAny_bind (wpAny_attempt (wpAny_callSpecial?_slot (name := Str.ofString "__next__") hT F.slot_enumerate_next
      (wpAny_call_entry F.slot_enumerate_next hT F.entry_enumerate_next ?_ (F.args_enumerate_next_1 _))))
    show wpAny _ _ (field (.ref e) 2 >>= _) _ _ _
    refine wpAny_bind (wpAny_field he rfl (x := .ref it) rfl ?_)
    refine wpAny_bind (wpAny_nextOf_tuple_end hd hit hIT (by simp; omega) fun h' x he' hx' => ?_)
    obtain ⟨o, ho, hc⟩ := hx'
    refine wpAny_bind (wpAny_isInstance (T := "StopIteration") (b := true) ⟨o, ho, hc⟩ isSubtype_stop ?_)
    exact wpAny_pure ⟨rfl, I.turned (t' := s.toks) (fun b o hb q => he' b o hb q) f0 f1 f3 f4 f5⟩
  self := fun A i s Q E st h => let ⟨⟨_, he⟩, _⟩ := st; wpAny_pyIter_enum he h
def iEnumT (K : PySem.W.Frag) (ta : TA) : TI := fun σ H R => ta σ H fun vs H1 => ∃ a xs, vs = [.ref a] ∧ SqT K H1 a xs ∧ R (ItT K a) H1
theorem pi_enumT {X : Cx} {e : Expr} {ta : TA} {p pos tpos : Pos} {elts : List Expr} {kk : Nat} (hg : Gl X "enumerate") (hm : X.mg "enumerate" = none) (ha : PA X [e] ta) (hs : starEach [e] X.env = [(false, eval e X.env)] := by rfl) :
    PI X (.Tuple elts kk tpos) (.Call (.Name "enumerate" p) [e] [] pos) (iEnumT X.K ta) := by
  refine ⟨fun pins s σ H R I h => ?_⟩
  refine Call_ (ld_blt I hg hm boot_enumerate (PyProof.Rows.callWith_type1 (thn (ha.run pos pins s σ H _ I h) fun us s1 ⟨vs, H1, I1, r1, q1⟩ => ?_) hs rfl))
  obtain ⟨a, xs, ex, hq, q⟩ := q1
  subst ex
  cases r1 with
  | cons r rr =>
    cases rr
    cases r
    obtain ⟨its, rv, p', hz⟩ := I1.tuple hq
    refine call_enum_tuple (show s1.heap.IsTuple a its.toArray from p') fun h' he hit hsz hk => wpAny_pyIter_enum he ?_
    have I2 : Inv X pins σ H1 { s1 with heap := h' } := I1.kept (t' := s1.toks) hk
    refine ⟨s1.heap.objs.size + 1, [s1.heap.objs.size + 1, s1.heap.objs.size], _, _, H1, rfl, I2, turn_enumT a (s1.heap.objs.size + 1) s1.heap.objs.size, ⟨⟨.none, he⟩, hit, Nat.succ_ne_self _⟩, fun b hb => ?_, q⟩
    have e' : b = s1.heap.objs.size + 1 ∨ b = s1.heap.objs.size := by simpa using hb
    have hle : s1.heap.objs.size ≤ b := by
      rcases e' with z | z
      · rw [z]; exact Nat.le_add_right _ _
      · rw [z]; exact Nat.le_refl _
    exact I1.fpOk hle (I1.hok.fresh hle)
theorem walk_enumT {K : PySem.W.Frag} {a : Addr} {xs : List V} : Walk (ItT K a) xs.length (fun H => SqT K H a xs) (YPair (fun i => some (.int (i : Nat))) (fun i => xs[i]?)) := by
  refine ⟨fun i _ hi q => ⟨xs, xs[i], q, by simp [hi]⟩, fun _ q => ⟨xs, q, Nat.le_refl _⟩, fun i H v H' _ q y => ?_⟩
  obtain ⟨T, x, h1, h2, h3, h4⟩ := y
  exact ⟨T, .int (i : Nat), x, h1, h2, h3, rfl, h4 xs q⟩
end W73
set_option Elab.async false
set_option linter.all false
set_option maxRecDepth 100000
set_option maxHeartbeats 4000000
namespace W73
open PySem PySem.Spec PyProof.Rows L2
open C8 (Cal Met Mak pe_c pe_mk pe_mt pe_mt0 pe_gc pss_cut tCut)
/-! ### {k: v for ..}: keys of either kind (o0: the empty dict of the kind that is wanted) -/
theorem dictSet_put {X : Cx} {pins : List (Addr × Obj)} {σ : L2.St} {H H' : Hp} {s : Shared} {A : Around} {E : Value → Shared → Prop} {a : Addr} {y v : V} {u r : Value} {Q : Unit → Shared → Prop} (hu : A.units + 1 < cLine) (I : Inv X pins σ H s) (g : DPut H a y v H') (ry : RelV y u) (rv : RelV v r)
    (h : ∀ s', Inv X pins σ H' s' → Q () s') : wpAny (model X.prog X.w) A (dictSet a u r) Q E s := by
  rcases g with ⟨kvs, k, e, ey, l, eH⟩ | ⟨kvs, k, b, e, ey, eb, l, eH⟩
  · subst ey eH
    obtain ⟨z, hd, vs, rel, dd⟩ := dk_of I.hok e
    have hz : vs.length ≤ sizeLine := by rw [← rel.length]; exact z
    have hl : (putK kvs k v).length ≤ sizeLine := by have := length_putK kvs k v; omega
    refine wpAny_dictSet_pairs (hsz := hz) (kV_is ry) dd fun h' dd' hs => h _ ?_
    have he : ∃ q, h'.get? a = some q := let ⟨q, _, _, hq, _⟩ := dd'; ⟨q, hq⟩
    exact d_write I (by rw [e]; exact True.intro) hs he (dk_new hl hd (rel.put k rv) dd')
  · subst ey eH
    cases (show u = Value.ref b from ry)
    obtain ⟨z, hd, xs, rel, dd⟩ := dt_of I.hok e
    have hz : xs.length ≤ sizeLine := by rw [← Paired.length rel]; exact z
    have hl : (putK kvs k v).length ≤ sizeLine := by have := length_putK kvs k v; omega
    refine wpAny_dictSet_heap (hsz := hz) (show (tupleKind (mixKind X.prog X.w)).room A from Nat.lt_of_succ_lt hu) (key_of I.hok eb) dd fun h' dd' hs => h _ ?_
    obtain ⟨q, es, ep, hq, h2, h3, h4, _, h5⟩ := dd'
    refine d_write I (by rw [e]; exact True.intro) hs ⟨q, hq⟩ ⟨hl, hd, _, (rel.put k eb rv).keeps fun c ys ec => ?_, q, es, ep, hq, h2, h3, h4, h5⟩
    rw [upd_ne (ne_of ec e (fun z => nomatch z))]
    exact ec
/-- the empty dict, by its kind -/
def eD (b : Bool) : HO := if b then .dT [] else .dK []
theorem eD_ok {P : Program} {w : World} {H : Hp} {b : Bool} (h : Heap) (hb : sysModules < h.objs.size) : ObjOk P w H (h.push { cls := .type "dict", data := .dict #[] }) h.objs.size (eD b) := by
  cases b with
  | true => exact dt_empty h hb
  | false => exact dk_empty h hb
section
variable {X : Cx}
def tDq (o0 : Bool) (wi : TI) (g : TG) (tt : TT) (tk tv : TE) (vs : List Nat) : TE := fun σ H Q => wi σ H fun J H1 => ∀ D, H1 D = none → ∃ W : Nat → Nat → Hp → Prop, (∃ m, W 0 m (upd H1 D (eD o0))) ∧ ∀ i m H, W i m H →
  (J.stop i H ∧ Q (.ref D) H) ∨ (J.go i H ∧ ∃ Nx : Hp → Prop, (∀ H', Nx H' → ∃ m', m' < m ∧ W (i + 1) m' H') ∧ ∀ x H', J.yld i H x H' → g x (wipe σ vs) H' fun σ2 H2 => wipe σ2 vs = wipe σ vs ∧ tt σ2 H2 fun b H3 =>
    if b = true then tk σ2 H3 fun y H4 => tv σ2 H4 fun z H5 => ∃ H6, DPut H5 D y z H6 ∧ Nx H6 else Nx H3)
theorem dq_core {o0 : Bool} {pins : List (Addr × Obj)} {s : Shared} {σ : L2.St} {H : Hp} {Q : VK} {kx vx tg iter : Expr} {ifs : List Expr} {scope : Scope} {own : List (Str × Nat)} {pos pos' : Pos} {wi : TI} {g : TG} {tt : TT} {tk tv : TE} {use : Option (Value → Sem Unit)} {Qf : Value → Shared → Prop}
    (hu : X.A.units + 1 < cLine) (hc : X.calm = true) (hN : X.N.Nodup) (I : Inv X pins σ H s) (hi : PI X tg iter wi) (ok : BlkOk X.N X.env.scope scope own)
    (hg : ∀ (s : Shared) (H : Hp) (C : Addr) (cl : List (Str × Addr)) (fp : List Addr), PG (X.blk s H scope (compEnvC scope cl C X.env) fp) tg g) (ht : ∀ (s : Shared) (H : Hp) (C : Addr) (cl : List (Str × Addr)) (fp : List Addr), PTs (X.blk s H scope (compEnvC scope cl C X.env) fp) ifs tt)
    (hk : ∀ (s : Shared) (H : Hp) (C : Addr) (cl : List (Str × Addr)) (fp : List Addr), PE (X.blk s H scope (compEnvC scope cl C X.env) fp) kx tk)
    (he : ∀ (s : Shared) (H : Hp) (C : Addr) (cl : List (Str × Addr)) (fp : List Addr), PE (X.blk s H scope (compEnvC scope cl C X.env) fp) vx tv) (hs : ∀ x, foldedSetIterable iter X.env x = pure x)
    (h : tDq o0 wi g tt tk tv (own.map (·.2)) σ H Q)
    (hRR : ∀ D C s' m H', Inv X pins σ H' s' → Q (.ref D) H' → s'.heap.Ns C m → FpOk X pins H' C → compPost (model X.prog X.w) X.A X.xe use Qf (.ref D) C (.ok .next) s') :
    wpAny (model X.prog X.w) X.A (comprehension (.DictComp kx vx [⟨tg, iter, ifs, 0⟩] scope pos) scope X.env pos' newDict false (eval iter X.env) use) Qf X.xe s := by
  have hfree : ∀ y ∈ scope.names, y.2 = .free → ∃ c, X.env.cells.lookup y.1 = some c := fun y hy e => by
    rcases ok.free y hy e with k | k
    · exact I.ok.has _ (.inl k)
    · exact I.ok.has _ (.inr k)
  refine wpAny_comprehension_free (use := use) rfl hs (closure_ok hfree) ok.kind (fun y hy e => by rw [ok.uniq y hy, e])
    (thn (hi.run pins s σ H _ I h) fun xv s1 hx => thn hx fun itv s2 h2 => ?_)
  obtain ⟨it, fp, tn, J, H2, e, I2, T, st2, f2, q⟩ := h2
  subst e
  refine wpAny_newObj_type (newEnv_comp ?_)
  generalize hD : s2.heap.objs.size = D
  have hDn : H2 D = none := I2.hok.fresh (Nat.le_of_eq hD)
  obtain ⟨W, ⟨m0, w0⟩, turn⟩ := q D hDn
  generalize hs3 : ({ s2 with heap := s2.heap.push { cls := .type "dict", data := .dict #[] } } : Shared) = s3
  have I3 : Inv X pins σ (upd H2 D (eD o0)) s3 := by
    rw [← hs3]
    refine I2.laid (t' := s2.toks) (fun b o e => Heap.get?_push_of_some _ e) (Nat.le_of_eq hD) ?_
    rw [← hD]
    exact eD_ok s2.heap I2.big
  have h3 : s3.heap = s2.heap.push { cls := .type "dict", data := .dict #[] } := by rw [← hs3]
  have sz : ∀ b ∈ fp, b < s2.heap.objs.size := fun b hb => by
    obtain ⟨o, e, _⟩ := T.obj _ _ st2 b hb
    exact Heap.lt_size e
  have f3 : ∀ b ∈ fp, FpOk X pins (upd H2 D (eD o0)) b ∧ b < s3.heap.objs.size := fun b hb => by
    have hlt := sz b hb
    refine ⟨⟨?_, (f2 b hb).2⟩, by rw [h3, Heap.size_push]; exact Nat.lt_succ_of_lt hlt⟩
    rw [upd_ne (by rw [← hD]; exact Nat.ne_of_lt hlt)]
    exact (f2 b hb).1
  have st3 : tn 0 s3.heap := T.keep _ _ _ st2 fun b _ o e => by rw [h3]; exact Heap.get?_push_of_some _ e
  have I4 := block_start I3 ok hN f3
  have pg := hg s3 (upd H2 D (eD o0)) s3.heap.objs.size (cellsFrom (s3.heap.objs.size + 1) scope.names (cloFrom X.env.cells scope.names [])) fp
  have pt := ht s3 (upd H2 D (eD o0)) s3.heap.objs.size (cellsFrom (s3.heap.objs.size + 1) scope.names (cloFrom X.env.cells scope.names [])) fp
  have pk := hk s3 (upd H2 D (eD o0)) s3.heap.objs.size (cellsFrom (s3.heap.objs.size + 1) scope.names (cloFrom X.env.cells scope.names [])) fp
  have pe := he s3 (upd H2 D (eD o0)) s3.heap.objs.size (cellsFrom (s3.heap.objs.size + 1) scope.names (cloFrom X.env.cells scope.names [])) fp
  show codeAny _ _ (.compStart (.DictComp kx vx [⟨tg, iter, ifs, 0⟩] scope pos) 0 (.ref it) (.ref D) (compEnvC scope (cellsFrom (s3.heap.objs.size + 1) scope.names (cloFrom X.env.cells scope.names [])) s3.heap.objs.size X.env)) (compPost (model X.prog X.w) X.A X.xe use Qf (.ref D) s3.heap.objs.size) { s3 with heap := pushCells (s3.heap.push { cls := .type "dict", data := .dict #[] }) scope.names }
  have nfp : ∀ b ∈ fp, (upd H2 D (eD o0)) b = none := fun b hb => (f3 b hb).1.1
  generalize hce : compEnvC scope (cellsFrom (s3.heap.objs.size + 1) scope.names (cloFrom X.env.cells scope.names [])) s3.heap.objs.size X.env = ce at I4 pg pt pk pe ⊢
  have cL : ce.locals = s3.heap.objs.size := by subst hce; rfl
  generalize hH3 : upd H2 D (eD o0) = H3 at I3 I4 pg pt pk pe w0 nfp f3
  generalize hs4 : ({ s3 with heap := pushCells (s3.heap.push { cls := .type "dict", data := .dict #[] }) scope.names } : Shared) = s4 at I4 ⊢
  have st4 : tn 0 s4.heap := T.keep _ _ _ st3 fun b _ o e => by rw [← hs4]; exact pushCells_keeps _ _ _ _ (Heap.get?_push_of_some _ e)
  have stat : ∀ {σ' : L2.St} {H' : Hp} {s' : Shared}, Inv (X.blk s3 H3 scope ce fp) [] σ' H' s' → (∀ b ∈ fp, H' b = none) → ∀ b ∈ fp, FpOk (X.blk s3 H3 scope ce fp) [] H' b := fun {σ' H' s'} I' hn b hb =>
    ⟨hn b hb, (I'.ok.exf b hb).1, I'.ok.exfs b hb, .inl hb, fun x c e => (I'.ok.exf b hb).2 x c e, fun p hp => absurd (show p ∈ ([] : List (Addr × Obj)) ++ [] from hp) (by simp)⟩
  have loop : codeAny (model X.prog X.w) X.A (.compLoop (.DictComp kx vx [⟨tg, iter, ifs, 0⟩] scope pos) 0 (.ref it) (.ref D) ce) (compPost (model X.prog X.w) X.A X.xe use Qf (.ref D) s3.heap.objs.size) s4 := by
    refine compLoop_anyD (fun n s' => ∃ i H', Inv (X.blk s3 H3 scope ce fp) [] (wipe σ (own.map (·.2))) H' s' ∧ tn i s'.heap ∧ (∀ b ∈ fp, H' b = none) ∧ W i n H') ?_ m0 ⟨0, H3, I4, st4, nfp, w0⟩
    rintro n s5 ⟨i, H5, I5, st5, n5, w5⟩
    rcases turn i n H5 w5 with ⟨stop, qq⟩ | ⟨go, Nx, hNx, step⟩
    · have td := T.done (X.blk s3 H3 scope ce fp) rfl rfl rfl hc i [] s5 _ H5 (fun _ _ => False) I5 (stat I5 n5) st5 stop
      refine thnF td fun r s6 ⟨hr, I6⟩ => ?_
      subst hr
      have I7 : Inv X pins σ H5 s6 := I3.call' (ch := fp) I6.os I6.base I6.hok I6.bare fun b hb => ⟨(f3 b hb).1.2.2.2.1, (f3 b hb).1.2.1, (f3 b hb).1.2.2.2.2.1, (f3 b hb).1.2.2.2.2.2⟩
      have nC : H5 s3.heap.objs.size = none := by
        have z : H5 ce.locals = none := I6.free
        rw [cL] at z
        exact z
      obtain ⟨m, hn, _⟩ := I6.loc
      have hn : s6.heap.Ns ce.locals m := hn
      rw [cL] at hn
      exact hRR D s3.heap.objs.size s6 m H5 I7 qq hn (I3.fpOk (Nat.le_refl _) nC)
    · have ti := T.item (X.blk s3 H3 scope ce fp) rfl rfl rfl hc i [] s5 _ H5 (fun _ _ => False) I5 (stat I5 n5) st5 go
      refine thnF ti fun r s6 ⟨u, hr, h6⟩ => ?_
      subst hr
      refine thnF h6 fun _ s7 ⟨x, H7, I7, r7, y7, st7, n7⟩ => ?_
      have I7' := I7.pinned (stat I7 n7) (T.obj _ _ st7)
      refine thnF (pg.run _ s7 _ H7 x u _ I7' r7 (step x H7 y7)) fun _ s8 ⟨σ8, H8, I8, hw8, q8⟩ => ?_
      refine thnF (pt.run _ s8 σ8 H8 _ I8 q8) fun b s9 ⟨H9, I9, q9⟩ => ?_
      have fin : ∀ {s' : Shared} {H' : Hp}, Inv (X.blk s3 H3 scope ce fp) ([] ++ pinsAt fp s7.heap) σ8 H' s' → Nx H' → ∃ m, m < n ∧ ∃ i H', Inv (X.blk s3 H3 scope ce fp) [] (wipe σ (own.map (·.2))) H' s' ∧ tn i s'.heap ∧ (∀ b ∈ fp, H' b = none) ∧ W i m H' := fun {s' H'} I' nx => by
        obtain ⟨m', hm, w'⟩ := hNx H' nx
        have pin' : ∀ b ∈ fp, ∀ o, s7.heap.get? b = some o → s'.heap.get? b = some o ∧ H' b = none := fun b hb o e =>
          let z := I'.pin (b, o) (List.mem_append_right _ (List.mem_append_right _ (mem_pinsAt hb e)))
          ⟨z.1, z.2.1⟩
        have hl : (wipe σ (own.map (·.2))).length = σ8.length := by rw [← hw8, wipe_length]
        refine ⟨m', hm, i + 1, H', (I'.unpinned (pins := [])).weak hl (fun j v e => ?_), T.keep _ _ _ st7 fun b hb o e => (pin' b hb o e).1, fun b hb => ?_, w'⟩
        · rw [← hw8] at e
          exact (wipe_some e).1
        · obtain ⟨o, e, _⟩ := T.obj _ _ st7 b hb
          exact (pin' b hb o e).2
      cases b with
      | false =>
        simp only [Bool.false_eq_true, if_false] at q9 ⊢
        exact fin I9 q9
      | true =>
        simp only [if_true] at q9 ⊢
        refine thnF (pk.run _ s9 σ8 H9 _ I9 q9) fun z s10 ⟨yk, H10, I10, r10, q10⟩ => ?_
        refine thnF (pe.run _ s10 σ8 H10 _ I10 q10) fun z2 s11 ⟨yv, H11, I11, r11, H12, put, nx⟩ => ?_
        exact dictSet_put (X := X.blk s3 H3 scope ce fp) hu I11 put r10 r11 fun s12 I12 => fin I12 nx
  exact codeAny_compStart_dict loop (T.self X.A 0 _ _ _ st4 loop)
/-- as a value -/
theorem pe_dq (o0 : Bool) {kx vx tg iter : Expr} {ifs : List Expr} {scope : Scope} {own : List (Str × Nat)} {pos : Pos} {wi : TI} {g : TG} {tt : TT} {tk tv : TE} (hu : X.A.units + 1 < cLine) (hc : X.calm = true) (hN : X.N.Nodup) (hi : PI X tg iter wi) (ok : BlkOk X.N X.env.scope scope own)
    (hg : ∀ (s : Shared) (H : Hp) (C : Addr) (cl : List (Str × Addr)) (fp : List Addr), PG (X.blk s H scope (compEnvC scope cl C X.env) fp) tg g) (ht : ∀ (s : Shared) (H : Hp) (C : Addr) (cl : List (Str × Addr)) (fp : List Addr), PTs (X.blk s H scope (compEnvC scope cl C X.env) fp) ifs tt)
    (hk : ∀ (s : Shared) (H : Hp) (C : Addr) (cl : List (Str × Addr)) (fp : List Addr), PE (X.blk s H scope (compEnvC scope cl C X.env) fp) kx tk)
    (he : ∀ (s : Shared) (H : Hp) (C : Addr) (cl : List (Str × Addr)) (fp : List Addr), PE (X.blk s H scope (compEnvC scope cl C X.env) fp) vx tv) (hs : ∀ x, foldedSetIterable iter X.env x = pure x := by intro _; rfl) :
    PE X (.DictComp kx vx [⟨tg, iter, ifs, 0⟩] scope pos) (tDq o0 wi g tt tk tv (own.map (·.2))) := by
  refine ⟨fun pins s σ H Q I h => ?_⟩
  rw [arm_eval_DictComp]
  refine dq_core hu hc hN I hi ok hg ht hk he hs h fun D C s' m H' I' q hn f => ⟨m, hn, fun h'' sb => ?_⟩
  obtain ⟨f0, f1, f2, f3, f4, f5⟩ := f
  exact ⟨.ref D, H', I'.turned (t' := s'.toks) (fun b o hb e => (sb.2 b hb).trans e) f0 f1 f3 f4 f5, rfl, q⟩
end
/-- a dict comprehension's reading over anything that walks -/
theorem dq_it {J : It} {n : Nat} {G : Hp → Prop} {Y : Nat → Hp → V → Hp → Prop} (w : Walk J n G Y) {o0 : Bool} {g : TG} {tt : TT} {tk tv : TE} {vs : List Nat} {σ : L2.St} {H1 : Hp} {D : Addr} {Qd : Hp → Prop} (Pv : Nat → Hp → Prop) (h0 : Pv 0 (upd H1 D (eD o0))) (hG : ∀ i H, i ≤ n → Pv i H → G H)
    (hs : ∀ i x H H', i < n → Pv i H → Y i H x H' → g x (wipe σ vs) H' fun σ2 H2 => wipe σ2 vs = wipe σ vs ∧ tt σ2 H2 fun b H3 =>
      if b = true then tk σ2 H3 fun y H4 => tv σ2 H4 fun z H5 => ∃ H6, DPut H5 D y z H6 ∧ Pv (i + 1) H6 else Pv (i + 1) H3) (hd : ∀ H, Pv n H → Qd H) :
    ∃ W : Nat → Nat → Hp → Prop, (∃ m, W 0 m (upd H1 D (eD o0))) ∧ ∀ i m H, W i m H →
      (J.stop i H ∧ Qd H) ∨ (J.go i H ∧ ∃ Nx : Hp → Prop, (∀ H', Nx H' → ∃ m', m' < m ∧ W (i + 1) m' H') ∧ ∀ x H', J.yld i H x H' → g x (wipe σ vs) H' fun σ2 H2 => wipe σ2 vs = wipe σ vs ∧ tt σ2 H2 fun b H3 =>
        if b = true then tk σ2 H3 fun y H4 => tv σ2 H4 fun z H5 => ∃ H6, DPut H5 D y z H6 ∧ Nx H6 else Nx H3) := by
  refine ⟨fun i m H => m = n - i ∧ i ≤ n ∧ Pv i H, ⟨n, by simp, Nat.zero_le _, h0⟩, ?_⟩
  rintro i m H ⟨rfl, hi, p⟩
  have q := hG i H hi p
  by_cases hlt : i < n
  · refine .inr ⟨w.goes i H hlt q, Pv (i + 1), fun H' p' => ⟨n - (i + 1), by omega, rfl, hlt, p'⟩, fun x H' y => hs i x H H' hlt p (w.yields i H x H' hlt q y)⟩
  · have e : i = n := by omega
    subst e
    exact .inl ⟨w.stops H q, hd H p⟩
/-! ### {(): e} -/
def tU0 (te : TE) : TE := fun σ H Q => ∀ p, H p = none → ∀ t, t ≠ p → H t = none → te σ (upd (upd H p (.dT [])) t (.tup [])) fun z H2 => H2 p = some (.dT []) ∧ H2 t = some (.tup []) ∧ Q (.ref p) (upd H2 p (.dT [([], z)]))
theorem pe_u0 {X : Cx} {e : Expr} {te : TE} {k : Nat} {p1 pos : Pos} (hu : X.A.units + 1 < cLine) (he : PE X e te)
    (hshape : (evalEachOpt [some (Expr.Tuple [] k p1)] X.env).zip ((evalEach [e] X.env).map fun v => do let x ← v; standAt pos; pure x) = [(some (eval (.Tuple [] k p1) X.env), (do let x ← eval e X.env; standAt pos; pure x))] := by rfl) : PE X (.Dict [some (.Tuple [] k p1)] [e] pos) (tU0 te) := by
  refine ⟨fun pins s σ H Q I q => ?_⟩
  have hn := I.hok.fresh (Nat.le_refl s.heap.objs.size)
  have I1 := I.laid (a := s.heap.objs.size) (o := .dT []) (h' := s.heap.push { cls := .type "dict", data := .dict #[] }) (t' := s.toks) (fun _ _ q => Heap.get?_push_of_some _ q) (Nat.le_refl _) (dt_empty s.heap I.big)
  rw [arm_eval_Dict, show (evalEachOpt [some (Expr.Tuple [] k p1)] X.env).zip ((evalEach [e] X.env).map fun v => do let x ← v; standAt pos; pure x) = ([(eval (.Tuple [] k p1) X.env, (do let x ← eval e X.env; standAt pos; pure x))] : List (Sem Value × Sem Value)).map (fun p => (some p.1, p.2)) from hshape,
    dictDisplay_pairs _ (by simp) (by simp)]
  refine wpAny_bind (wpAny_standAt (wpAny_bind (wpAny_subDictH (knd := tupleKind (mixKind X.prog X.w)) (Q := fun d s' => wpAny (model X.prog X.w) X.A (pure (Value.ref d)) (EP X pins σ Q) X.xe s') (show (tupleKind (mixKind X.prog X.w)).room X.A from Nat.lt_of_succ_lt hu) (by simp) ?_)))
  refine evalPairs_cons (thn ((pe_tup (X := X) (pa_nil (X := X))).run pins _ σ (upd H s.heap.objs.size (.dT [])) (fun v H2 => ∃ t, v = .ref t ∧ (upd H s.heap.objs.size (.dT [])) t = none ∧ H2 = upd (upd H s.heap.objs.size (.dT [])) t (.tup [])) I1 ⟨Nat.zero_le _, fun t ht => ⟨t, rfl, ht, rfl⟩⟩) fun kv s2 ⟨v2, H2, I2, r2, t, ev, ht, eH⟩ => ?_)
  subst ev eH
  obtain rfl : kv = Value.ref t := r2
  have nt : t ≠ s.heap.objs.size := fun z => by
    rw [z, upd_same] at ht
    cases ht
  have ht0 : H t = none := by
    rw [upd_ne nt] at ht
    exact ht
  refine wpAny_bind (thn (he.run pins s2 σ _ _ I2 (q _ hn t nt ht0)) fun vv s3 ⟨z, H3, I3, r3, h1, h2, h3⟩ => ?_)
  refine wpAny_bind (wpAny_standAt (wpAny_pure (evalPairs_nil ?_)))
  obtain ⟨zz, lo, xs, rel, dd⟩ := dt_of I3.hok h1
  have exs : xs = [] := by
    cases rel
    rfl
  subst exs
  refine ⟨[([], t, vv)], ⟨rfl, rfl, key_of (ks := []) I3.hok h2, trivial⟩, dd, fun h' tk dd' sb => wpAny_pure ?_⟩
  obtain ⟨qo, es, ep, hq, c2, c3, c4, c5, c6⟩ := dd'
  have I4 : Inv X pins σ (upd H3 s.heap.objs.size (.dT [([], z)])) { s3 with heap := h', toks := tk } := by
    refine d_write (t' := tk) I3 (by rw [h1]; exact True.intro) sb ⟨qo, hq⟩ ⟨?_, lo, [([], t, vv)], .cons ⟨rfl, ?_, r3⟩ .nil, qo, es, ep, hq, c2, c3, c4, c6⟩
    · show 1 ≤ sizeLine
      decide
    · rw [upd_ne nt]
      exact h2
  exact ⟨.ref s.heap.objs.size, _, I4, rfl, h3⟩
end W73
set_option Elab.async false
set_option linter.all false
set_option maxRecDepth 100000
set_option maxHeartbeats 4000000
namespace W73
open PySem PySem.Spec PyProof.Rows L2
/-! ### data: ints, texts, tuples of such -/
inductive D
  | i (n : Int)
  | s (x : Str)
  | t (l : List D)
mutual
inductive TD' (H : Hp) : D → V → Prop
  | i (n : Int) : TD' H (.i n) (.int n)
  | s (x : Str) : TD' H (.s x) (.str x)
  | t {a : Addr} {vs : List V} {ds : List D} : H a = some (.tup vs) → TDs H ds vs → TD' H (.t ds) (.ref a)
inductive TDs (H : Hp) : List D → List V → Prop
  | nil : TDs H [] []
  | cons {d : D} {v : V} {ds : List D} {vs : List V} : TD' H d v → TDs H ds vs → TDs H (d :: ds) (v :: vs)
end
/-- the tuples of H stand in H' -/
def Tps (H H' : Hp) : Prop := ∀ a xs, H a = some (.tup xs) → H' a = some (.tup xs)
theorem Tps.refl (H : Hp) : Tps H H := fun _ _ e => e
theorem Tps.trans {H H1 H2 : Hp} (a : Tps H H1) (b : Tps H1 H2) : Tps H H2 := fun x xs e => b x xs (a x xs e)
theorem Tps.of {H H' : Hp} (e : Same H H') : Tps H H' := fun a xs q => e a _ q
theorem Tps.new {H : Hp} {p : Addr} {o : HO} (h : H p = none) : Tps H (upd H p o) := .of (Same.new h)
/-- what is no tuple may change -/
theorem Tps.put {H : Hp} {p : Addr} {o u : HO} (h : H p = some u) (hu : ∀ xs, u ≠ .tup xs) : Tps H (upd H p o) := fun a xs q => by
  rw [upd_ne (fun z => by rw [z, h] at q; cases q; exact hu _ rfl)]
  exact q
mutual
theorem TD'.mono {H H' : Hp} (m : Tps H H') : ∀ {d : D} {v : V}, TD' H d v → TD' H' d v
  | _, _, .i n => .i n
  | _, _, .s x => .s x
  | _, _, .t h l => .t (m _ _ h) (TDs.mono m l)
theorem TDs.mono {H H' : Hp} (m : Tps H H') : ∀ {d : List D} {v : List V}, TDs H d v → TDs H' d v
  | _, _, .nil => .nil
  | _, _, .cons a b => .cons (TD'.mono m a) (TDs.mono m b)
end
theorem TDs.length {H : Hp} : ∀ {d : List D} {v : List V}, TDs H d v → d.length = v.length
  | _, _, .nil => rfl
  | _, _, .cons _ b => by simp [b.length]
theorem TDs.get {H : Hp} : ∀ {ds : List D} {vs : List V} {i : Nat} {d : D}, TDs H ds vs → ds[i]? = some d → ∃ v, vs[i]? = some v ∧ TD' H d v
  | _, _, _, _, .nil, h => by simp at h
  | _, _, 0, _, .cons a _, h => by simp at h; subst h; exact ⟨_, rfl, a⟩
  | _, _, i + 1, _, .cons _ b, h => by simpa using TDs.get b (by simpa using h)
theorem TDs.get' {H : Hp} : ∀ {ds : List D} {vs : List V} {i : Nat} {v : V}, TDs H ds vs → vs[i]? = some v → ∃ d, ds[i]? = some d ∧ TD' H d v
  | _, _, _, _, .nil, h => by simp at h
  | _, _, 0, _, .cons a _, h => by simp at h; subst h; exact ⟨_, rfl, a⟩
  | _, _, i + 1, _, .cons _ b, h => by simpa using TDs.get' b (by simpa using h)
theorem TDs.append {H : Hp} : ∀ {ds es : List D} {vs us : List V}, TDs H ds vs → TDs H es us → TDs H (ds ++ es) (vs ++ us)
  | _, _, _, _, .nil, h => h
  | _, _, _, _, .cons a b, h => .cons a (b.append h)
theorem TDs.drop {H : Hp} : ∀ {ds : List D} {vs : List V} (n : Nat), TDs H ds vs → TDs H (ds.drop n) (vs.drop n)
  | _, _, 0, h => h
  | _, _, n + 1, .nil => by simpa using TDs.nil
  | _, _, n + 1, .cons _ b => b.drop n
theorem TD'.tup {H : Hp} {ds : List D} {v : V} (h : TD' H (.t ds) v) : ∃ a vs, v = .ref a ∧ H a = some (.tup vs) ∧ TDs H ds vs := by
  cases h with
  | t h l => exact ⟨_, _, rfl, h, l⟩
theorem TD'.str {H : Hp} {x : Str} {v : V} (h : TD' H (.s x) v) : v = .str x := by cases h; rfl
theorem TD'.int {H : Hp} {n : Int} {v : V} (h : TD' H (.i n) v) : v = .int n := by cases h; rfl
/-! ### as the library's data -/
mutual
def D.py : D → PyData
  | .i n => .int n
  | .s x => .str x
  | .t l => .tuple (D.pys l)
def D.pys : List D → List PyData
  | [] => []
  | d :: l => d.py :: D.pys l
end
mutual
theorem TD'.dp {K : PySem.W.Frag} {H : Hp} : ∀ {d : D} {v : V}, TD' H d v → Dp K H v d.py
  | _, _, .i n => by rw [D.py]; exact .int n
  | _, _, .s x => by rw [D.py]; exact .str x
  | _, _, .t h l => by rw [D.py]; exact .tup (.inl (.inl h)) (TDs.dp l)
theorem TDs.dp {K : PySem.W.Frag} {H : Hp} : ∀ {d : List D} {v : List V}, TDs H d v → DpAll K H v (D.pys d)
  | _, _, .nil => by rw [D.pys]; exact .nil
  | _, _, .cons a b => by rw [D.pys]; exact .cons a.dp (TDs.dp b)
end
/-! ### repr(e): some text, whatever is being shown around -/
mutual
def D.wt : D → Nat
  | .i n => if n.natAbs.log2 < 1920 then (toString n : Str).length else sizeLine + 1
  | .s x => (reprText x).length
  | .t l => 5 + D.wts l
def D.wts : List D → Nat
  | [] => 0
  | d :: l => (d.wt + 2) + D.wts l
end
mutual
def D.dp : D → Nat
  | .i _ => 0
  | .s _ => 0
  | .t l => D.dps l + 1
def D.dps : List D → Nat
  | [] => 0
  | d :: l => max d.dp (D.dps l)
end
section
variable {prog : Program} {w : World}
/-- x shows as some text of at most m signs -/
def RB (prog : Program) (w : World) (h0 : Heap) (d m : Nat) (x : Value) : Prop :=
  ∀ (b : Nat), b + m ≤ sizeLine → ∀ (A : Around) (E : Value → Shared → Prop) (s : Shared) (Q : Str → Shared → Prop), A.units + d < cLine → (∀ a o, h0.get? a = some o → s.heap.get? a = some o) →
    (∀ h' t tk, t.length ≤ m → (∀ a o, s.heap.get? a = some o → h'.get? a = some o) → Q t { s with heap := h', toks := tk }) → wpAny (model prog w) A (pyReprUnder b x) Q E s
theorem RB.leaf {x : Value} {t : Str} {h0 : Heap} {d m : Nat} (h : ReprIs prog w x t) (hm : t.length ≤ m) : RB prog w h0 d m x := fun b hb A E s Q _ _ hQ =>
  h b (by omega) A E s Q fun tk => hQ s.heap t tk hm fun _ _ e => e
theorem RB.lvl {x : Value} {h0 : Heap} {d e m : Nat} (h : RB prog w h0 d m x) (hd : d ≤ e) : RB prog w h0 e m x := fun b hb A E s Q hu => h b hb A E s Q (by omega)
inductive RBs (prog : Program) (w : World) (h0 : Heap) (d : Nat) : List Value → Nat → Prop
  | nil : RBs prog w h0 d [] 0
  | cons {x : Value} {l : List Value} {m n : Nat} : RB prog w h0 d m x → RBs prog w h0 d l n → RBs prog w h0 d (x :: l) ((m + 2) + n)
theorem RBs.lvl {h0 : Heap} {d e : Nat} (hd : d ≤ e) : ∀ {l : List Value} {m : Nat}, RBs prog w h0 d l m → RBs prog w h0 e l m
  | _, _, .nil => .nil
  | _, _, .cons a b => .cons (a.lvl hd) (b.lvl hd)
theorem rb_fold {A : Around} {E : Value → Shared → Prop} {h0 : Heap} {d : Nat} (hu : A.units + d < cLine) : ∀ (l : List Value) (m : Nat) (acc : Array Str) (n : Nat) (s : Shared) (Q : (Array Str × Nat) → Shared → Prop), RBs prog w h0 d l m → n + m ≤ sizeLine →
    (∀ a o, h0.get? a = some o → s.heap.get? a = some o) → (∀ h' tk (ts : List Str), ts.length = l.length → piled ts ≤ m → (∀ a o, s.heap.get? a = some o → h'.get? a = some o) → Q ⟨acc ++ ts.toArray, n + piled ts⟩ { s with heap := h', toks := tk }) →
    wpAny (model prog w) A (forIn l (⟨acc, n⟩ : (Array Str × Nat)) tupBody) Q E s := by
  intro l
  induction l with
  | nil =>
    intro m acc n s Q hT hn hk h
    have z := h s.heap s.toks [] rfl (Nat.zero_le _) fun _ _ e => e
    simp only [List.forIn_nil]
    exact wpAny_pure (by simpa [piled] using z)
  | cons x l ih =>
    intro m acc n s Q hT hn hk h
    cases hT with
    | @cons _ _ m1 m2 hx hl =>
      rw [List.forIn_cons]
      refine wpAny_bind (wpAny_bind (hx (n + 1) (by omega) A E s _ hu hk fun h1 t tk ht k1 => wpAny_pure ?_))
      refine ih m2 (acc.push t) (n + (t.length + 2)) _ Q hl (by omega) (fun a o e => k1 a o (hk a o e)) fun h2 tk2 ts hts hp k2 => ?_
      have z := h h2 tk2 (t :: ts) (by simp [hts]) (by rw [piled_cons]; omega) fun a o e => k2 a o (k1 a o e)
      rw [show n + piled (t :: ts) = n + (t.length + 2) + piled ts by rw [piled_cons]; omega] at z
      simpa using z
theorem tupleText_le (ts : List Str) : (tupleText ts).length ≤ 5 + piled ts := by
  unfold tupleText
  rw [strLen_append, strLen_append]
  have e1 : ((("(" : String) : Str)).length = 1 := rfl
  have e3 : (((if ts.length == 1 then ",)" else ")" : String) : Str)).length ≤ 2 := by split <;> decide
  by_cases h : ts = []
  · subst h
    have : (Str.join ", " ([] : List Str)).length = 0 := rfl
    omega
  · have := join_length_add ts h
    omega
theorem rb_own {h0 : Heap} {d m : Nat} {a : Addr} {o : Obj} {items : Array Value} {n : Nat} (ha : h0.get? a = some o) (hd : o.data = .seq items n) (hT : RBs prog w h0 d items.toList m)
    {A : Around} {s : Shared} {R : Result → Shared → Prop} {b : Nat} {id : String} {rest : List Value} (hcu : (A.under (.builtin id ⟨.ref a :: rest, []⟩)).units = A.units + 1) (hu : A.units + (d + 1) < cLine) (hk : ∀ a o, h0.get? a = some o → s.heap.get? a = some o)
    (hR : ∀ h' t u tk, t.length ≤ 5 + m → (∀ a o, s.heap.get? a = some o → h'.get? a = some o) → R (.ok (.ret (.str t u))) { s with heap := h', toks := tk }) (hsz : b + (5 + m) ≤ sizeLine) :
    wpOwn (model prog w) A (.builtin id ⟨.ref a :: rest, []⟩) (Builtin.tupleReprAt b ⟨[.ref a], []⟩) (fun fin s' => match fin with | .done f => R (.ok f) s' | .again c' => c'.quiet = true ∧ codeAny (model prog w) A c' R s') (fun e s' => R (.error e) s') s := by
  rw [tuple_repr_tree, tupleReprUnderWay_eq]
  refine wpOwn_of_wpAny (wpAny_bind (wpAny_bind (wpAny_stack_any fun st => wpAny_pure ?_)))
  split
  · refine wpAny_bind (wpAny_rule ?_)
    exact wpAny_bind (wpAny_mkStr (wpAny_pure (hR s.heap _ _ _ (by show (5 : Nat) ≤ 5 + m; omega) fun _ _ e => e)) (by show (5 : Nat) ≤ sizeLine; omega))
  · show wpAny _ _ (tupleReprRest b (.ref a)) _ _ s
    unfold tupleReprRest Builtin.Tuple.tupleItemsOf
    refine wpAny_bind (wpAny_bind (wpAny_seqItems (hk _ _ ha) hd (wpAny_pure ?_)))
    rw [← Array.forIn_toList]
    refine wpAny_bind (rb_fold (d := d) (by rw [hcu]; omega) _ m _ _ _ _ hT (by omega) hk fun h' tk ts hts hp k1 => ?_)
    have hl : ts.length = items.size := by simpa using hts
    have hz := tupleText_le ts
    refine wpAny_bind (wpAny_mkStr (wpAny_pure ?_) (by simpa [tupleText, hl] using (show (tupleText ts).length ≤ sizeLine by omega)))
    have z := hR h' (tupleText ts) tk (tk + 1) (by omega) k1
    simpa [tupleText, hl] using z
theorem RB.tuple {h0 : Heap} {d m : Nat} {a : Addr} {o : Obj} {items : Array Value} {n : Nat} (ha : h0.get? a = some o) (hc : o.cls = .type "tuple") (hd : o.data = .seq items n) (hT : RBs prog w h0 d items.toList m) : RB prog w h0 (d + 1) (5 + m) (.ref a) := by
  intro b hb A E s Q hu hk hQ
  refine wpAny_pyReprUnder_ref (by omega) (wpAny_pyReprObjUnder_twin (twin := "tuple.__repr__.under") ⟨o, hk _ _ ha, hc⟩ F.slot_tuple_repr rfl (by omega) ?_)
  exact call_twin_own (F.quiet_tuple_repr_under _) F.entry_tuple_repr_under F.check_tuple_repr_under ⟨o, hk _ _ ha, hc⟩ F.slot_tuple_repr (F.args_tuple_repr_1 _)
    (rb_own (R := callEnd _ E) ha hd hT (units_under_tuple_repr_under _ _) hu hk (fun h' t u tk ht k1 => ⟨⟨_, _, rfl⟩, _, _, rfl, hQ h' t tk ht k1⟩) hb)
end
section
variable {X : Cx} {pins : List (Addr × Obj)} {σ : L2.St} {H : Hp} {s : Shared}
mutual
theorem TD'.rb (I : Inv X pins σ H s) : ∀ {d : D} {v : V} {u : Value}, TD' H d v → RelV v u → d.wt ≤ sizeLine → RB X.prog X.w s.heap d.dp d.wt u
  | _, _, _, .i n, r, h => by
    obtain ⟨t, rfl⟩ := r
    rw [D.wt] at h ⊢
    by_cases c : n.natAbs.log2 < 1920
    · rw [if_pos c]
      exact .leaf (ReprIs.int t c) (Nat.le_refl _)
    · rw [if_neg c] at h
      omega
  | _, _, _, .s x, r, h => by
    obtain ⟨t, rfl⟩ := r
    rw [D.wt] at h ⊢
    exact .leaf (ReprIs.str x t h) (Nat.le_refl _)
  | _, _, _, .t e l, r, h => by
    rename_i a vs ds
    cases (show _ = Value.ref a from r)
    obtain ⟨its, rv, ⟨o, ho, hc, n, hd⟩, _⟩ := I.tuple (.inl (.inl e))
    rw [D.wt] at h ⊢
    rw [D.dp]
    exact .tuple ho hc hd (TDs.rb I l (by simpa using rv) (by omega))
theorem TDs.rb (I : Inv X pins σ H s) : ∀ {ds : List D} {vs : List V} {us : List Value}, TDs H ds vs → Vals vs us → D.wts ds ≤ sizeLine → RBs X.prog X.w s.heap (D.dps ds) us (D.wts ds)
  | _, _, _, .nil, .nil, _ => by rw [D.wts]; exact .nil
  | _, _, _, .cons a b, .cons r rr, h => by
    rw [D.wts] at h ⊢
    rw [D.dps]
    exact .cons ((TD'.rb I a r (by omega)).lvl (Nat.le_max_left _ _)) ((TDs.rb I b rr (by omega)).lvl (Nat.le_max_right _ _))
end
/-- repr(e), e a tuple -/
def rRepr : List V → Hp → VK → Prop := fun vs H Q => ∃ x ds, vs = [x] ∧ TD' H (.t ds) x ∧ (D.t ds).wt ≤ sizeLine ∧ (D.t ds).dp < 60 ∧ ∀ z : Str, Q (.str z) H
theorem cr_repr {X : Cx} (hu : X.A.units + 64 < cLine) : CallR X (.builtin "repr") rRepr := by
  intro pins s σ H xs us Q I r h
  obtain ⟨x, ds, rfl, td, hw, hd, q⟩ := h
  obtain ⟨u, rfl, ru⟩ := r.one
  cases td with
  | t e l =>
    rename_i a vs
    obtain rfl : u = Value.ref a := ru
    obtain ⟨its, rv, ⟨o, ho, hc, n, hda⟩, _⟩ := I.tuple (.inl (.inl e))
    rw [D.wt] at hw
    rw [D.dp] at hd
    refine call_repr_slot (by omega) ⟨o, ho, hc⟩ F.slot_tuple_repr ?_
    refine wpAny_call (codeAny_call_builtin_own (Code.quiet_builtin _ (by decide +kernel)) F.entry_tuple_repr (F.slot_tuple_repr.check _ _ _ _ _ _ _ _ ⟨o, ho, hc⟩ (F.args_tuple_repr_1 _) ?_))
    exact rb_own (A := X.A.in1) (b := 0) (R := callEnd _ X.xe) ho hda (TDs.rb I l (by simpa using rv) (by omega)) (units_under_tuple_repr _ _) (by show X.A.units + 1 + _ < cLine; omega) (fun _ _ e => e)
      (fun h' t u tk ht k1 => ⟨_, _, rfl, .str t, H, I.kept (t' := tk) k1, ⟨_, rfl⟩, q t⟩) (by omega)
end
end W73
set_option Elab.async false
set_option linter.all false
set_option maxRecDepth 100000
set_option maxHeartbeats 4000000
namespace W73
open PySem PySem.Spec PyProof.Rows L2
open PySem.W (EqTree)
/-! ### xs != ys, two lists of data of which some are lists and dicts -/
/-- x and y are equal data, at most n deep -/
inductive Ev (H : Hp) : Nat → V → V → Prop
  | int (n : Nat) (i : Int) : Ev H n (.int i) (.int i)
  | lst {n : Nat} {a b : Addr} {xs ys : List V} : H a = some (.lst xs) → H b = some (.lst ys) → xs.length = ys.length → (∀ (i : Nat) (x y : V), xs[i]? = some x → ys[i]? = some y → Ev H n x y) → Ev H (n + 1) (.ref a) (.ref b)
  | dct {n : Nat} {a b : Addr} {ks ls : List (Key × V)} : H a = some (.dK ks) → H b = some (.dK ls) → ks.length = ls.length → (∀ k x, (k, x) ∈ ks → (valV ls k).isSome = true) → (∀ k x y, (k, x) ∈ ks → valV ls k = some y → Ev H n x y) → Ev H (n + 1) (.ref a) (.ref b)
theorem KV.mem' {kvs : List (Key × V)} {vs : List (Key × Value)} (r : KV kvs vs) : ∀ {k : Key} {u : Value}, (k, u) ∈ vs → ∃ x, (k, x) ∈ kvs ∧ RelV x u := by
  unfold KV at r
  induction r with
  | nil => intro k u h; simp at h
  | @cons p q ps qs h t ih =>
    intro k u hm
    rcases List.mem_cons.mp hm with e | hm
    · subst e
      exact ⟨p.2, by rw [show p = (k, p.2) from Prod.ext h.1 rfl]; simp, h.2⟩
    · obtain ⟨x, hx, rx⟩ := ih hm
      exact ⟨x, List.mem_cons_of_mem _ hx, rx⟩
theorem vals_at {xs : List V} {its : List Value} (r : Vals xs its) {j : Nat} {u : Value} (h : its[j]? = some u) : ∃ x, xs[j]? = some x ∧ RelV x u := by
  cases e : xs[j]? with
  | none => rw [r.none_of e] at h; cases h
  | some x =>
    obtain ⟨u', e', q⟩ := r.get e
    rw [h] at e'
    cases e'
    exact ⟨x, rfl, q⟩
theorem all_true {n : Nat} : ((List.range n).all fun _ => true) = true := by simp
section
variable {X : Cx} {pins : List (Addr × Obj)} {σ : L2.St} {H : Hp} {s : Shared}
theorem Ev.tree (I : Inv X pins σ H s) {n : Nat} {x y : V} (h : Ev H n x y) : ∀ u v : Value, RelV x u → RelV y v → EqTree X.prog X.w s n u v true := by
  induction h with
  | int n i =>
    rintro u v ⟨t, rfl⟩ ⟨t', rfl⟩
    refine .leaf fun A _ => ?_
    have z := SeqAt.EqAt.int_int (A := A) (s := s) i t i t'
    rwa [show (i == i) = true from beq_self_eq_true i] at z
  | @lst n a b xs ys ha hb hl _ ih =>
    intro u v ru rv
    obtain rfl : u = Value.ref a := ru
    obtain rfl : v = Value.ref b := rv
    by_cases e : a = b
    · subst e
      exact .same
    obtain ⟨its, r1, p1, _⟩ := I.list (.inl (.inl ha))
    obtain ⟨its2, r2, p2, _⟩ := I.list (.inl (.inl hb))
    have z := EqTree.lists (prog := X.prog) (w := X.w) (n := n) (e := fun _ => true) e (show s.heap.IsList a its.toArray from p1.isList) (show s.heap.IsList b its2.toArray from p2.isList) (by simp [← r1.length, ← r2.length, hl]) fun j h1 h2 => by
      obtain ⟨x, hx, rx⟩ := vals_at r1 (j := j) (u := its.toArray[j]) (by simp)
      obtain ⟨y, hy, ry⟩ := vals_at r2 (j := j) (u := its2.toArray[j]) (by simp)
      exact ih j x y hx hy _ _ rx ry
    rwa [all_true] at z
  | @dct n a b ks ls ha hb hl hs _ ih =>
    intro u v ru rv
    obtain rfl : u = Value.ref a := ru
    obtain rfl : v = Value.ref b := rv
    by_cases e : a = b
    · subst e
      exact .same
    obtain ⟨_, na, va, ka, da⟩ := dk_of I.hok ha
    obtain ⟨_, nb, vb, kb, db⟩ := dk_of I.hok hb
    have z := EqTree.dicts (prog := X.prog) (w := X.w) (n := n) (e := fun _ => true) e na nb da db fun k v y hm hy => by
      obtain ⟨x, hx, rx⟩ := KV.mem' ka hm
      have r := kb.val k
      rw [hy] at r
      cases q : valV ls k with
      | none => rw [q] at r; exact r.elim
      | some y' =>
        rw [q] at r
        exact ih k x y' hx q _ _ rx r
    have hall : (va.length == vb.length && va.all fun p => (valueAt vb p.1).isSome && (fun _ : Key => true) p.1) = true := by
      rw [← ka.length, ← kb.length, hl]
      simp only [beq_self_eq_true, Bool.true_and, Bool.and_true, List.all_eq_true]
      rintro ⟨k, v⟩ hm
      obtain ⟨x, hx, _⟩ := KV.mem' ka hm
      have q := hs k x hx
      have r := kb.val k
      cases q1 : valV ls k with
      | none => rw [q1] at q; exact nomatch q
      | some y' =>
        rw [q1] at r
        cases q2 : valueAt vb k with
        | none => rw [q2] at r; exact r.elim
        | some _ => rfl
    rwa [hall] at z
end
section
open PySem.SeqAt
open AutoSeq1 (wpAny_loadPart')
open MeetsSeq MeetsSeq2 MeetsSeq3 SeqRoads2
variable {prog : Program} {w : World}
theorem ne_loopT (l b : Addr) (xs ys : Array Value) (n n2 : Nat) (dd dd2 : Option Addr) (sl sl2 : Array (Option Value)) (hsz : xs.size = ys.size) (k : Nat) :
    ∀ i : Nat, xs.size - i = k → MeetsIn prog w (Builtin.«list.__eq__.loop» ⟨[.ref l, .ref b, rawInt i, rawInt 3], []⟩)
      (fun A R s => s.heap.get? l = some { cls := .type "list", dict := dd, data := .seq xs n, slots := sl } ∧ s.heap.get? b = some { cls := .type "list", dict := dd2, data := .seq ys n2, slots := sl2 } ∧
        (∀ j (h1 : j < xs.size) (h2 : j < ys.size), EqIn prog w A.in1 s xs[j] ys[j] true) ∧ R (.ok (.ret (.bool false))) s) := by
  induction k with
  | zero =>
    rintro i hk A R ⟨hp, g, d, tk, os⟩ ⟨hl, hb, he, h⟩
    wp_walk using wpAny_loadPart' hl, wpAny_loadPart' hb
    have q1 : xs[((i : Nat) : Int).toNat]? = none := by simp; omega
    have q2 : ys[((i : Nat) : Int).toNat]? = none := by simp; omega
    rw [q1, q2]
    wp_walk using wpAny_loadPart' hl, wpAny_loadPart' hb
    show R (.ok (.ret (.bool (xs.size != ys.size)))) _
    rw [hsz]
    simpa using h
  | succ k ih =>
    rintro i hk A R ⟨hp, g, d, tk, os⟩ ⟨hl, hb, he, h⟩
    wp_walk using wpAny_loadPart' hl, wpAny_loadPart' hb
    have l1 : i < xs.size := by omega
    have l2 : i < ys.size := by omega
    have q1 : xs[((i : Nat) : Int).toNat]? = some xs[i] := by simp [l1]
    have q2 : ys[((i : Nat) : Int).toNat]? = some ys[i] := by simp [l2]
    rw [q1, q2]
    refine wpAny_bind (he i l1 l2 _ _ ?_)
    wp_walk
    rw [show ((i : Int) + 1) = ((i + 1 : Nat) : Int) by push_cast; rfl]
    exact ⟨plainId_quiet plain_eq_loop _, codeAny_builtin entry_eq_loop (by
      rw [Around.under_plainId plain_eq_loop _]
      exact ih (i + 1) (by omega) A R _ ⟨hl, hb, he, h⟩)⟩
theorem list_neT (l b : Addr) (xs ys : Array Value) (n n2 : Nat) (dd dd2 : Option Addr) (sl sl2 : Array (Option Value)) (hsz : xs.size = ys.size) :
    MeetsIn prog w (Builtin.«list.__ne__» ⟨[.ref l, .ref b], []⟩)
      (fun A R s => s.heap.get? l = some { cls := .type "list", dict := dd, data := .seq xs n, slots := sl } ∧ s.heap.get? b = some { cls := .type "list", dict := dd2, data := .seq ys n2, slots := sl2 } ∧
        (∀ j (h1 : j < xs.size) (h2 : j < ys.size), EqIn prog w A.in1 s xs[j] ys[j] true) ∧ R (.ok (.ret (.bool false))) s) := by
  rintro A R ⟨hp, g, d, tk, os⟩ ⟨hl, hb, he, h⟩
  have f3 := AutoSeq1.sub_list_list
  have hne : ¬ (xs.size != ys.size) = true := by simp [hsz]
  wp_walk using wpAny_loadPart' hl, wpAny_loadPart' hb
  exact ⟨plainId_quiet plain_eq_loop _, codeAny_builtin entry_eq_loop (by
    rw [Around.under_plainId plain_eq_loop _]
    exact ne_loopT l b xs ys n n2 dd dd2 sl sl2 hsz _ 0 rfl A R _ ⟨hl, hb, he, h⟩)⟩
theorem rc_neT {A : Around} {s : Shared} {E : Value → Shared → Prop} {l b : Addr} {xs ys : Array Value} {Q : Value → Shared → Prop} (hl : s.heap.IsList l xs) (hb : s.heap.IsList b ys) (hsz : xs.size = ys.size) (hu : A.units < cLine)
    (he : ∀ j (h1 : j < xs.size) (h2 : j < ys.size), EqIn prog w A.in1 s xs[j] ys[j] true) (h : Q (.bool false) s) : wpAny (model prog w) A (richCompare .NotEq (.ref l) (.ref b)) Q E s := by
  obtain ⟨⟨c1, dd, d1, sl⟩, ho, hc, n, hd⟩ := id hl
  obtain ⟨⟨c2, dd2, d2, sl2⟩, ho2, hc2, n2, hd2⟩ := id hb
  simp only at hc hd hc2 hd2
  subst hc hd hc2 hd2
  exact wpAny_richCompare_same_room (T := "list") (op := .NotEq) ⟨_, ho, rfl⟩ ⟨_, ho2, rfl⟩ F.slot_list_ne (call_meetsIn F.slot_list_ne ⟨_, ho, rfl⟩ F.entry_list_ne (F.args_list_ne_2 _ _) (list_neT l b xs ys n n2 dd dd2 sl sl2 hsz)
    ⟨ho, ho2, he, show Value.bool false ≠ Value.notImplemented ∧ Q (.bool false) s from ⟨(fun x => nomatch x), h⟩⟩) hu
end
/-- the reading: equal data -/
def rNeSame : R2 := fun x y H Q => ∃ a b xs ys, x = .ref a ∧ y = .ref b ∧ H a = some (.lst xs) ∧ H b = some (.lst ys) ∧ xs.length = ys.length ∧ (∀ (i : Nat) x y, xs[i]? = some x → ys[i]? = some y → Ev H 8 x y) ∧ Q (.bl false) H
theorem op_neSame {X : Cx} (hu : X.A.units + 64 < cLine) : OpR X (compareOp .NotEq) rNeSame := by
  intro pins s σ H x y v u Q I rx ry h
  obtain ⟨a, b, xs, ys, rfl, rfl, ha, hb, hl, he, q⟩ := h
  obtain rfl : v = Value.ref a := rx
  obtain rfl : u = Value.ref b := ry
  obtain ⟨its, r1, p1, _⟩ := I.list (.inl (.inl ha))
  obtain ⟨its2, r2, p2, _⟩ := I.list (.inl (.inl hb))
  refine rc_neT (show s.heap.IsList a its.toArray from p1.isList) (show s.heap.IsList b its2.toArray from p2.isList) (by simp [← r1.length, ← r2.length, hl]) (by omega) (fun j h1 h2 => ?_) ⟨.bl false, H, I, rfl, q⟩
  obtain ⟨x, hx, rx⟩ := vals_at r1 (j := j) (u := its.toArray[j]) (by simp)
  obtain ⟨y, hy, ry⟩ := vals_at r2 (j := j) (u := its2.toArray[j]) (by simp)
  exact ((he j x y hx hy).tree I _ _ rx ry).at _ (by show X.A.units + 1 + 8 < cLine; omega)
end W73
set_option Elab.async false
set_option linter.all false
set_option maxRecDepth 100000
set_option maxHeartbeats 4000000
namespace W73
open PySem PySem.Spec PyProof.Rows L2
/-! ### a method that calls super().__init__(..): its class's cell is captured -/
theorem cf_app : ∀ (l : List (Str × NameKind)) (n : Nat) (acc : List (Str × Addr)), cellsFrom n l acc = cellsFrom n l [] ++ acc
  | [], _, _ => rfl
  | (x, k) :: r, n, acc => by
    unfold cellsFrom
    split
    · rw [cf_app r (n + 1) ((x, n) :: acc), cf_app r (n + 1) [(x, n)], List.append_assoc]
      rfl
    · exact cf_app r n acc
abbrev envS (qual : Str) (scope : Scope) (L f : Addr) (cd : Value) (cc : Addr) : Env := PySem.W.envX qual scope L f cd (cellsFrom (L + 1) scope.names [("__class__", cc)])
theorem store_env {e1 e2 : Env} (hs : e1.scope = e2.scope) (hl : e1.locals = e2.locals) (hg : e1.globals = e2.globals) {n : Str} {v : Value} (hk : e1.scope.kind = .function) (h : e1.kindOf n = some .local ∨ (e1.kindOf n = some .cell ∧ e1.cells.lookup n = e2.cells.lookup n)) : storeName e1 n v = storeName e2 n v := by
  have k2 : e2.kindOf n = e1.kindOf n := by
    unfold Env.kindOf
    rw [hs]
  have f2 : e2.scope.kind = .function := by rw [← hs]; exact hk
  rcases h with h | ⟨h, hc⟩
  · unfold storeName
    simp only [k2, h, hk, f2, hl, hg]
    rfl
  · unfold storeName PySem.cellOf
    simp only [k2, h, hk, f2, hc]
    rfl
theorem forIn_same {α : Type} : ∀ (l : List α) (f g : α → PUnit → Sem (ForInStep PUnit)), (∀ x ∈ l, ∀ u, f x u = g x u) → forIn l PUnit.unit f = forIn l PUnit.unit g
  | [], _, _, _ => by simp only [List.forIn_nil]
  | x :: l, f, g, h => by
    rw [List.forIn_cons, List.forIn_cons, h x (by simp)]
    congr
    funext r
    cases r with
    | done b => rfl
    | yield b => exact forIn_same l f g fun y hy => h y (List.mem_cons_of_mem _ hy)
theorem wp_eq {α : Type} {M : Model} {A : Around} {E : Value → Shared → Prop} {s : Shared} {t u : Sem α} {Q : α → Shared → Prop} (e : t = u) (h : wpAny M A u Q E s) : wpAny M A t Q E s := by
  rw [e]
  exact h
theorem newEnvS {M : Model} {A : Around} {E : Value → Shared → Prop} {s : Shared} {scope : Scope} {binds : List (Str × Value)} {qual : Str} {f cc : Addr} {code : Value} {Q : Env → Shared → Prop} (hk : scope.kind = .function)
    (hkind : ∀ x ∈ binds, scope.names.lookup x.1 = some .local ∨ (scope.names.lookup x.1 = some .cell ∧ ((cellsFrom (s.heap.objs.size + 1) scope.names []).lookup x.1).isSome = true))
    (hQ : ∀ s', InCallC s s.heap.objs.size (bindL (envOfC qual scope s.heap.objs.size f code).kindOf binds fun _ => none) (cellsFrom (s.heap.objs.size + 1) scope.names []) (bindC (envOfC qual scope s.heap.objs.size f code).kindOf binds fun _ => none) s' → Q (envS qual scope s.heap.objs.size f code cc) s') :
    wpAny M A (newFunctionEnv scope mainGlobals [("__class__", cc)] binds (qual ++ ".<locals>.") (some f) code none builtinsNs) Q E s := by
  simp only [newFunctionEnv, Option.isSome_none, Bool.false_eq_true, if_false]
  refine wpAny_bind (wpAny_alloc ?_)
  refine wpAny_bind (wpAny_layCells _ (fun name kind cells => by cases hkc : kind == NameKind.cell <;> simp [hkc]) _ _ _ _ ?_)
  have hz : ({ s with heap := s.heap.push { cls := .type "frame", data := .dict #[] } } : Shared).heap.objs.size = s.heap.objs.size + 1 := Heap.size_push ..
  rw [hz]
  have ok := cellsFrom_ok scope.names (s.heap.push { cls := .type "frame", data := .dict #[] }) (s.heap.objs.size + 1) [] ⟨fun _ _ hm => (nomatch hm), List.Pairwise.nil⟩ (by rw [Heap.size_push]; exact Nat.le_refl _)
  rw [Heap.size_push] at ok
  have e1 := forIn_same binds (fun x _ => do storeName (envS qual scope s.heap.objs.size f code cc) x.1 x.2; pure (.yield ⟨⟩)) (fun x _ => do storeName (envOfC qual scope s.heap.objs.size f code) x.1 x.2; pure (.yield ⟨⟩)) fun x hx u => by
    rw [store_env (e1 := envS qual scope s.heap.objs.size f code cc) (e2 := envOfC qual scope s.heap.objs.size f code) rfl rfl rfl hk ?_]
    rcases hkind x hx with h | ⟨h, hc⟩
    · exact .inl h
    · refine .inr ⟨h, ?_⟩
      show (cellsFrom (s.heap.objs.size + 1) scope.names [("__class__", cc)]).lookup x.1 = _
      rw [cf_app, List.lookup_append]
      obtain ⟨c, hc⟩ := Option.isSome_iff_exists.mp hc
      rw [hc]
      exact hc.symm
  refine wpAny_bind (wp_eq e1 (wpAny_bindParams (s₀ := s) (env := envOfC qual scope s.heap.objs.size f code) _ (fun _ _ _ => rfl) hk binds (fun _ => none) (fun _ => none) _ _
    ⟨⟨⟨_, _, rfl⟩, (Heap.Ns.new s.heap (.type "frame")).keeps (pushCells_keeps _ _), fun b o e => pushCells_keeps _ _ b o (Heap.get?_push_of_some _ e), Nat.le_refl _⟩,
      fun n c hc => (ok.empty n c (PySem.mem_of_lookup hc)).1, ok.apart, fun n c hm => (ok.empty n c hm).2⟩
    hkind fun s' x => wpAny_pure (hQ s' x)))
end W73
set_option Elab.async false
set_option linter.all false
set_option maxRecDepth 100000
set_option maxHeartbeats 4000000
namespace W73
open PySem PySem.Spec PyProof.Rows L2
open C8 (Cal)
/-- its names: no captured name but the class's cell -/
structure SScope (N ps : List Str) (sc : Scope) : Prop where
  kind : sc.kind = .function
  co : sc.isCoroutine = false
  gen : sc.isGenerator = false
  nd : N.Nodup
  pre : N.take ps.length = ps
  par : ∀ x ∈ ps, sc.names.lookup x = some .local ∨ sc.names.lookup x = some .cell
  fr : ∀ y ∈ sc.names, y.2 = .free → y.1 = "__class__"
  cl : sc.names.lookup ("__class__" : Str) = some .free
  nc : ("__class__" : Str) ∉ N
  uni : ∀ y ∈ sc.names, sc.names.lookup y.1 = some y.2
  su : sc.names.lookup ("super" : Str) = some .globalImplicit
def cxS (P : Program) (w : World) (K : PySem.W.Frag) (mg : Str → Option Value) (base : Heap) (N : List Str) (qual : Str) (scope : Scope) (f : Addr) (cd : Value) (cc : Addr) (A : Around) (outer : List Env) (s : Shared) (H : Hp) : Cx where
  prog := P
  w := w
  K := K
  mg := mg
  base := base
  A := A.deeper (envS qual scope s.heap.objs.size f cd cc)
  N := N
  s_0 := s
  H_0 := H
  env := envS qual scope s.heap.objs.size f cd cc
  outer := outer
  stack := envS qual scope s.heap.objs.size f cd cc :: outer
  ex := []
  calm := true
  fn := fun y => y != "__class__"
  pn := []
  xe := fun _ _ => False
theorem cellsS {qual : Str} {scope : Scope} {L f cc : Addr} {cd : Value} {y : Str} {c : Addr} (h : (envS qual scope L f cd cc).cells.lookup y = some c) : (cellsFrom (L + 1) scope.names []).lookup y = some c ∨ (y = "__class__" ∧ c = cc) := by
  have h : (cellsFrom (L + 1) scope.names [("__class__", cc)]).lookup y = some c := h
  rw [cf_app, List.lookup_append] at h
  cases e : (cellsFrom (L + 1) scope.names []).lookup y with
  | some c' =>
    rw [e] at h
    exact .inl h
  | none =>
    rw [e] at h
    right
    have h : ([("__class__", cc)] : List (Str × Addr)).lookup y = some c := h
    rw [List.lookup_cons] at h
    split at h
    · rename_i q
      exact ⟨by simpa using q, by cases h; rfl⟩
    · cases h
theorem cells_own {qual : Str} {scope : Scope} {L f cc : Addr} {cd : Value} {y : Str} {c : Addr} (h : (cellsFrom (L + 1) scope.names []).lookup y = some c) : (envS qual scope L f cd cc).cells.lookup y = some c := by
  show (cellsFrom (L + 1) scope.names [("__class__", cc)]).lookup y = some c
  rw [cf_app, List.lookup_append, h]
  rfl
section
variable {P : Program} {w : World} {K : PySem.W.Frag} {mg : Str → Option Value} {base : Heap} {N ps : List Str} {qual name : Str} {scope : Scope} {f cc D f2 cda : Addr} {A : Around} {outer : List Env} {s s1 : Shared} {H : Hp} {us : List Value} {vs : List V} {k : Nat}
theorem no_cls_cell (S : SScope N ps scope) {L : Addr} {c : Addr} : ¬ (cellsFrom (L + 1) scope.names []).lookup ("__class__" : Str) = some c := fun h => by
  have q : ∀ (l : List (Str × NameKind)) (n : Nat) (acc : List (Str × Addr)) (y : Str) (c : Addr), (y, c) ∈ cellsFrom n l acc → (y, c) ∈ acc ∨ (y, NameKind.cell) ∈ l := by
    intro l
    induction l with
    | nil => intro n acc y c h; exact .inl h
    | cons p r ih =>
      intro n acc y c h
      obtain ⟨x, kd⟩ := p
      unfold cellsFrom at h
      split at h
      · rename_i hk
        rcases ih _ _ _ _ h with h | h
        · rcases List.mem_cons.mp h with h | h
          · cases h
            right
            have : kd = .cell := by simpa using hk
            subst this
            simp
          · exact .inl h
        · exact .inr (List.mem_cons_of_mem _ h)
      · rcases ih _ _ _ _ h with h | h
        · exact .inl h
        · exact .inr (List.mem_cons_of_mem _ h)
  rcases q _ _ _ _ _ (PySem.mem_of_lookup h) with z | z
  · cases z
  · have q := S.uni _ z
    rw [S.cl] at q
    cases q
theorem inv_startS {cd : Value} {oc : Obj} (S : SScope N ps scope) (hd : A.handled = none) (e0 : Env0 P w K mg base A outer s H) (hl : vs.length = ps.length) (r : Vals vs us) (hc : K.lookup cc = some oc) (hcd : ∃ v, oc.data = .cell v)
    (x : InCallC s s.heap.objs.size (bindL (envOfC qual scope s.heap.objs.size f cd).kindOf (ps.zip us) fun _ => none) (cellsFrom (s.heap.objs.size + 1) scope.names []) (bindC (envOfC qual scope s.heap.objs.size f cd).kindOf (ps.zip us) fun _ => none) s1) :
    Inv (cxS P w K mg base N qual scope f cd cc A outer s H) [] (L2.start N vs) H s1 := by
  have hpl : ps.length ≤ N.length := by
    have := congrArg List.length S.pre
    rw [List.length_take] at this
    omega
  obtain ⟨h1, tk, rfl, hk⟩ := x.done
  have noA : ∀ b : Addr, b ∉ (cxS P w K mg base N qual scope f cd cc A outer s H).ex := fun b z => absurd (show b ∈ ([] : List Addr) from z) (by simp)
  have cb := e0.bs cc oc (e0.mod.kin cc oc hc)
  have clt : cc < s.heap.objs.size := Heap.lt_size cb.1
  have own : ∀ {y c}, (cellsFrom (s.heap.objs.size + 1) scope.names []).lookup y = some c → s.heap.objs.size < c := fun {y c} h => x.above y c (PySem.mem_of_lookup h)
  refine ⟨⟨e0.mod, S.kind, rfl, rfl, Nat.le_refl _, fun y z c h1 h2 => ?_, fun y hy => ?_, fun y c hf h => ?_, fun _ => hd, Around.frames_deeper e0.frames, .inr ⟨rfl, rfl⟩, fun b z => absurd z (noA b), e0.bs, e0.bsz, fun b _ _ => noA b, fun b z => absurd z (noA b), e0.funs, e0.frf⟩,
    rfl, e0.bare, Un.kept hk, ⟨_, x.toInCall.ns, fun i y v h1 h2 h3 => ?_⟩, fun y c h => ?_, e0.hok.fresh (Nat.le_refl _), fun y c h => ?_, fun p hp => absurd (show p ∈ ([] : List (Addr × Obj)) from hp) (by simp), e0.hok.kept hk, ?_⟩
  · rcases cellsS h1 with a | ⟨a, a'⟩ <;> rcases cellsS h2 with b | ⟨b, b'⟩
    · exact name_of_addr x.apart (PySem.mem_of_lookup a) (PySem.mem_of_lookup b)
    · have := own a
      subst b'
      exact absurd clt (Nat.not_lt.mpr (Nat.le_of_lt this))
    · have := own b
      subst a'
      exact absurd clt (Nat.not_lt.mpr (Nat.le_of_lt this))
    · rw [a, b]
  · have hy : scope.names.lookup y = some .cell ∨ scope.names.lookup y = some .free := hy
    rcases hy with hy | hy
    · obtain ⟨c, hc⟩ := cell_has (n := s.heap.objs.size + 1) hy
      exact ⟨c, cells_own hc⟩
    · have e : y = "__class__" := S.fr _ (PySem.mem_of_lookup hy) rfl
      subst e
      refine ⟨cc, ?_⟩
      show (cellsFrom (s.heap.objs.size + 1) scope.names [("__class__", cc)]).lookup _ = _
      rw [cf_app, List.lookup_append]
      cases e : (cellsFrom (s.heap.objs.size + 1) scope.names []).lookup ("__class__" : Str) with
      | some c => exact absurd e (no_cls_cell S)
      | none =>
        rw [List.lookup_cons]
        simp
  · rcases cellsS h with a | ⟨a, _⟩
    · exact Nat.le_of_lt (own a)
    · subst a
      have hf : (("__class__" : Str) != "__class__") = true := hf
      simp at hf
  · have hi : i < vs.length := by
      unfold L2.start at h2
      by_cases hi : i < vs.length
      · exact hi
      · rw [List.getElem?_append_right (by simpa using hi), List.getElem?_replicate] at h2
        split at h2 <;> cases h2
    have ha : vs[i]? = some v := by
      unfold L2.start at h2
      rw [List.getElem?_append_left (by simpa using hi), List.getElem?_map] at h2
      cases e : vs[i]? with
      | none => rw [e] at h2; cases h2
      | some a => rw [e] at h2; cases h2; rfl
    obtain ⟨u, hu, rv⟩ := r.get ha
    have h1 : N[i]? = some y := h1
    have hp : ps[i]? = some y := by
      rw [← S.pre, List.getElem?_take_of_lt (by omega)]
      exact h1
    have ndP : ps.Nodup := by
      rw [← S.pre]
      exact S.nd.sublist (List.take_sublist _ _)
    refine ⟨u, rv, ?_⟩
    rcases S.par y (List.mem_of_getElem? hp) with k | k
    · exact .inl ⟨k, bindL_get ndP hp hu k⟩
    · obtain ⟨c, e⟩ := cell_has (n := s.heap.objs.size + 1) k
      refine .inr ⟨.inl k, c, cells_own e, ?_⟩
      have q := x.cell y c e
      rwa [bindC_get ndP hp hu (by show scope.names.lookup y ≠ _; rw [k]; decide)] at q
  · rcases cellsS h with a | ⟨_, a⟩
    · exact ⟨_, x.cell y c a⟩
    · subst a
      obtain ⟨v, hv⟩ := hcd
      exact ⟨v, oc, hk _ _ cb.1, hv⟩
  · rcases cellsS h with a | ⟨_, a⟩
    · exact e0.hok.fresh (Nat.le_of_lt (own a))
    · subst a
      exact cb.2
  · unfold L2.start
    show _ = N.length
    rw [List.length_append, List.length_map, List.length_replicate]
    omega
end
end W73
set_option Elab.async false
set_option linter.all false
set_option maxRecDepth 100000
set_option maxHeartbeats 4000000
namespace W73
open PySem PySem.Spec PyProof.Rows L2
open C8 (Cal)
/-- what the top leaves of a method m of the class at D that begins with one statement and then calls super().__init__(..) -/
structure SupF (P : Program) (K : PySem.W.Frag) (mg : Str → Option Value) (f cc D f2 cda : Addr) (name qual : Str) (params : Arguments) (body : List Stmt) (scope : Scope) (fd : FuncData) : Prop where
  ex : ∃ (oc : Value) (od : Option Addr) (doc pm ct : Value) (an : Option Addr) (osl : Array (Option Value)), fd = PySem.W.fnX name qual params body scope [("__class__", cc)] .none .none doc pm an (.ref cda) ct ∧ K.lookup f = some ⟨oc, od, .func fd, osl⟩
  cd : PySem.W.codeIn K (.ref cda) qual = true
  code : ∃ (ccl : Value) (cdd : Option Addr) (vs : Array Value) (ccs : Array (Option Value)) (file : Str) (tf : Tok), K.lookup cda = some ⟨ccl, cdd, .fields vs, ccs⟩ ∧ vs[2]? = some (.str file tf) ∧ ((P.main.file : Str) == file) = true
  cell : ∃ (cl : Value) (cld : Option Addr) (csl : Array (Option Value)), K.lookup cc = some ⟨cl, cld, .cell (some (.ref D)), csl⟩
  cls : ∃ cdD, PySem.W.clsIn K D = some cdD
  mro : PySem.W.mroIn K D (.ref D) = some true
  sup : PySem.W.ks_superIn K D D "__init__" = some (some (.ref f2))
  ty : PySem.W.typeIn K (.ref f2) = some (.type "function")
  fn : PySem.W.fnIn K f2 = true
  opq : PySem.W.nsIn K cStatics "thirdparty.any" = some none
  ms : mg "super" = none
  top : (P.main.scope.names.lookup ("super" : Str)).isSome = false
section
variable {P : Program} {w : World} {K : PySem.W.Frag} {mg : Str → Option Value} {base : Heap} {N ps : List Str} {qual name : Str} {params : Arguments} {scope : Scope} {f cc D f2 cda : Addr} {A : Around} {outer : List Env} {s s1 : Shared} {H : Hp} {us : List Value} {vs : List V} {k : Nat} {sp spI : Sp} {fd : FuncData}
theorem fnS {st1 : Stmt} {rest : List Stmt} {e1 : Expr} {es : List Expr} {p0 p1 p2 p3 p4 : Pos} {ar : Arg} (F : SupF P K mg f cc D f2 cda name qual params (st1 :: .Expr (.Call (.Attribute (.Call (.Name "super" p0) [] [] p1) "__init__" p2) (e1 :: es) [] p3) p4 :: rest) scope fd) (S : SScope N ps scope)
    (len : ∀ vs H Q E, sp vs H Q E → vs.length = ps.length) (hp : (params.posonlyargs ++ params.args).head? = some ar) (h0 : N[0]? = some ar.arg) (hl0 : scope.names.lookup ar.arg = some .local) (FI : FnR P w K mg base C8.CX0 k f2 spI)
    (hst : ∀ env : Env, starEach (e1 :: es) env = (false, eval e1 env) :: starEach es env) (hpl : ∀ env : Env, (backTo p3 (starEach es env)).any (·.1) = false)
    (hq : ∀ env : Env, swapsWith (.Call (.Attribute (.Call (.Name "super" p0) [] [] p1) "__init__" p2) (e1 :: es) [] p3) none p4.line env = pure false)
    (he : ∀ env : Env, eval (.Call (.Attribute (.Call (.Name "super" p0) [] [] p1) "__init__" p2) (e1 :: es) [] p3) env = (do
      let ov ← attributeBase (.Call (.Name "super" p0) [] [] p1) "__init__" env (eval (.Call (.Name "super" p0) [] [] p1) env)
      standAt p2.atName
      let (f, first) ← holding [ov] (getMethod ov "__init__" (pure false))
      callWith p3 f first (backTo p3 (starEach (e1 :: es) env)) []))
    (hbody : ∀ (A : Around) (outer : List Env) (s : Shared) (H : Hp) (vs : List V) (Q : VK) (E : XK), Room k (A.deeper (envS qual scope s.heap.objs.size f (.ref cda) cc)) → sp vs H Q E →
      ∃ (t1 : TS) (ta : TA) (t3 : TS), PS (cxS P w K mg base N qual scope f (.ref cda) cc A outer s H) st1 t1 ∧ PA (cxS P w K mg base N qual scope f (.ref cda) cc A outer s H) (e1 :: es) ta ∧ PSs (cxS P w K mg base N qual scope f (.ref cda) cc A outer s H) rest t3 ∧
        t1 { nx := fun σ1 H1 => ∃ x dx fs, σ1[0]? = some (some (.ref x)) ∧ H1 x = some (.ins D dx fs) ∧ ∀ q, H1 q = none → ta σ1 (upd H1 q (.met f2 x)) fun ws H2 => H2 q = some (.met f2 x) ∧ spI (.ref x :: ws) H2 (fun v H3 => t3 { nx := fun _ H' => Q .non H', rt := Q } σ1 H3) (fun _ _ _ => False), rt := Q } (L2.start N vs) H) :
    FnOk P w K mg base C8.CX0 (k + 1) f fd ps sp := by
  refine ⟨len, fun A outer s H args us vs Q E hr e0 hb r hsp => ?_⟩
  have hl := len _ _ _ _ hsp
  have KX : K.In s.heap := e0.mod.kin.keeps fun b o e => (e0.bs b o e).1
  have lim : s.heap.NoLimit := e0.mod.nolimit.keeps fun b o e => (e0.bs b o e).1
  have hkind : ∀ y ∈ ps.zip us, scope.names.lookup y.1 = some .local ∨ (scope.names.lookup y.1 = some .cell ∧ ((cellsFrom (s.heap.objs.size + 1) scope.names []).lookup y.1).isSome = true) := fun ⟨n, v⟩ hy => by
    rcases S.par n (List.of_mem_zip hy).1 with q | q
    · exact .inl q
    · exact .inr ⟨q, PySem.W.cellsFrom_some _ _ _ (.inl q)⟩
  obtain ⟨oc, od, doc, pm, ct, an, osl, rfl, lk⟩ := F.ex
  obtain ⟨cl, cld, csl, hcc⟩ := F.cell
  obtain ⟨ccl, cdd, vs0, ccs, file, tf, hcode, hvs, hfile⟩ := F.code
  obtain ⟨cdD, hcD⟩ := F.cls
  refine codeAny_call_function hr.depth (KX _ _ lk) rfl S.co S.gen rfl (PySem.W.codeRec_of KX F.cd) (hb _ _ _ _ ?_)
  refine newEnvS S.kind hkind fun s1 x => ⟨lim.keeps x.toInCall.keep, ks_codeAny_funcAt ?_⟩
  obtain ⟨t1, ta, t3, h1, ha, h3, hq1⟩ := hbody A outer s H vs Q E (hr.deeper _) hsp
  have hrX : Room k (cxS P w K mg base N qual scope f (.ref cda) cc A outer s H).A := hr.deeper _
  have I : Inv (cxS P w K mg base N qual scope f (.ref cda) cc A outer s H) [] (L2.start N vs) H s1 := inv_startS S hr.hd e0 hl r hcc ⟨_, rfl⟩ x
  generalize hX : cxS P w K mg base N qual scope f (.ref cda) cc A outer s H = X at h1 ha h3 I hrX
  have eP : X.prog = P := by rw [← hX]; rfl
  have ew : X.w = w := by rw [← hX]; rfl
  have eK : X.K = K := by rw [← hX]; rfl
  have em : X.mg = mg := by rw [← hX]; rfl
  have eb : X.base = base := by rw [← hX]; rfl
  have eA : X.A = A.deeper (envS qual scope s.heap.objs.size f (.ref cda) cc) := by rw [← hX]; rfl
  have eE : X.env = envS qual scope s.heap.objs.size f (.ref cda) cc := by rw [← hX]; rfl
  have eN : X.N = N := by rw [← hX]; rfl
  have ex : X.xe = fun _ _ => False := by rw [← hX]; rfl
  have fin : ∀ {σ' : L2.St} {H' : Hp} {v : V} {u : Value} {s' : Shared}, Inv X [] σ' H' s' → RelV v u → Q v H' → CE outer P w H s Q u s' := by
    rw [← hX]
    exact fun {σ' H' v u s'} J rv q => ⟨v, H', J.os, J.bare, J.base, J.hok, rv, q⟩
  have ends : ∀ (D : Ends) (fl : Flow) (s' : Shared), D.nx = (fun _ H' => Q .non H') → D.rt = Q → D.bk = (fun _ _ => False) → D.ct = (fun _ _ => False) → SP X [] D fl s' → CR C8.CX0 outer P w H s Q E (.ok (.ret (match fl with | .ret v => v | _ => .none))) s' := by
    intro D fl s' e1 e2 e3 e4 hs
    cases fl with
    | ret u =>
      obtain ⟨v, σ', H', J, rv, q⟩ := hs
      rw [e2] at q
      exact fin J rv q
    | next =>
      obtain ⟨σ', H', J, q⟩ := hs
      rw [e1] at q
      exact fin (v := V.non) (u := Value.none) J rfl q
    | brk =>
      obtain ⟨_, _, _, q⟩ := hs
      rw [e3] at q
      exact q.elim
    | cont =>
      obtain ⟨_, _, _, q⟩ := hs
      rw [e4] at q
      exact q.elim
  have z1 := h1.run [] s1 (L2.start N vs) H _ I hq1
  rw [eP, ew, eA, eE, ex] at z1
  refine ks_wpAt_execs_cons (ks_wpAt_mono (wpAt_of_wpAny z1) (fun fl s2 hs => ?_) fun _ _ z => z.elim)
  cases fl with
  | ret u =>
    obtain ⟨v, σ', H', J, rv, q⟩ := hs
    exact fin J rv q
  | brk =>
    obtain ⟨_, _, _, q⟩ := hs
    exact False.elim q
  | cont =>
    obtain ⟨_, _, _, q⟩ := hs
    exact False.elim q
  | next =>
    obtain ⟨σ1, H1, I1, xa, dx, fs, hx0, hxa, q⟩ := hs
    show _root_.PySem.wpAt _ _ _ (execs (_ :: rest) _) _ _ _
    refine ks_wpAt_execs_cons (ks_wpAt_Expr_any (ks_wpAt_MethodCall ?_ (he _)) (by have := I1.quiet; rwa [eE] at this) (hq _))
    obtain ⟨hh, g, d, t, os⟩ := s2
    have K2 : K.In hh := by have := I1.kIn; rwa [eK] at this
    obtain ⟨mA, O, rO, _, _, _⟩ := ins_get I1.hok hxa
    obtain ⟨odx, J, _⟩ := O.look
    obtain ⟨m, hns, hlk⟩ := I1.loc
    rw [eE] at hns hlk
    obtain ⟨u0, ru0, l0⟩ := hlk 0 ar.arg (.ref xa) (by rw [eN]; exact h0) hx0 (.inl hl0)
    obtain rfl : u0 = Value.ref xa := ru0
    have hm0 : m ar.arg = some (.ref xa) := by
      rcases l0 with ⟨_, z⟩ | ⟨z, _⟩
      · exact z
      · have z : scope.names.lookup ar.arg = some .cell ∨ scope.names.lookup ar.arg = some .free := z
        rw [hl0] at z
        rcases z with z | z <;> cases z
    obtain ⟨oD, hD1, hD2⟩ : ∃ oD, hh.get? D = some oD ∧ oD.data = .cls cdD := by
      unfold PySem.W.clsIn at hcD
      split at hcD
      · rename_i c d cd' sl ho
        cases hcD
        exact ⟨_, K2 _ _ ho, rfl⟩
      · cases hcD
    refine ks_wpAt_super_base S.su S.cl (by decide +kernel) rfl (K2 _ _ lk) rfl hp rfl (K2 _ _ hcode) rfl hvs hfile F.top ?_
    have glob := I1.mod.glob.keeps I1.bk
    obtain ⟨mb, b1, b2⟩ := I1.mod.blt
    rw [em] at glob
    refine PySem.W.ks_loadName_global S.kind S.su (Calls.loadGlobal_builtin glob F.ms (b1.keeps I1.bk) ((b2 _ (by decide)).trans (by decide +kernel)) ⟨rfl, ?_⟩)
    refine wpAny_loadName_free S.kind S.cl ?_ ⟨_, K2 _ _ hcc, rfl⟩ ?_
    · show (cellsFrom (s.heap.objs.size + 1) scope.names [("__class__", cc)]).lookup _ = _
      rw [cf_app, List.lookup_append]
      cases e : (cellsFrom (s.heap.objs.size + 1) scope.names []).lookup ("__class__" : Str) with
      | some c => exact absurd e (no_cls_cell S)
      | none =>
        rw [List.lookup_cons]
        simp
    refine wpAny_loadName_local S.kind hl0 hns hm0 ?_
    refine ks_wpAny_isType_cls hD1 hD2 ⟨rfl, ?_⟩
    refine ks_wpAny_call_super hD1 hD2 J.at_ J.cls (fun c e => ?_) (PySem.W.looks_mroIn K2 F.mro) (fun h' e k1 => ?_)
    · have := J.no
      unfold PySem.W.notCls at this
      rw [e] at this
      exact Bool.noConfusion this
    have I2 : Inv X [] σ1 H1 ⟨h', g, d, t, os⟩ := I1.kept (t' := t) k1
    have K3 : K.In h' := by have := I2.kIn; rwa [eK] at this
    obtain ⟨cd, hcd, hal⟩ := Option.bind_eq_some_iff.mp F.sup
    obtain ⟨of, hof, hofc⟩ : ∃ of, h'.get? f2 = some of ∧ of.cls = .type "function" := by
      have ht' : (K.lookup f2).map (·.cls) = some (.type "function") := F.ty
      cases z : K.lookup f2 with
      | none => rw [z] at ht'; cases ht'
      | some of => rw [z] at ht'; exact ⟨of, K3 _ _ z, Option.some.inj ht'⟩
    refine ks_wpAny_getMethod_super e (PySem.W.looks_opaque K3 F.opq) (l₀ := cd.mro) ?_ rfl K3 hal hof hofc (PySem.W.ks_ne K2 J hcD) (by decide +kernel) ?_
    · exact fun A Q E s k q => wpAny_bind ((PySem.W.looks_clsIn K3 hcd) A _ E s k (wpAny_pure q))
    have nq : H1 h'.objs.size = none := I2.hok.fresh (Nat.le_refl _)
    have I3 : Inv X [] σ1 (upd H1 h'.objs.size (.met f2 xa)) ⟨h'.push { cls := .type "method", data := .fields #[.ref f2, .ref xa] }, g, d, t + 1, os⟩ :=
      I2.laid (t' := t + 1) (a := h'.objs.size) (o := .met f2 xa) (fun b u z => Heap.get?_push_of_some _ z) (Nat.le_refl _)
        (show (h'.push (PySem.W.methodObj (.ref f2) (.ref xa))).get? h'.objs.size = some (PySem.W.methodObj (.ref f2) (.ref xa)) from Heap.get?_push_size h' rfl)
    have hplain : ((backTo p3 (starEach (e1 :: es) X.env)).any (·.1) || ([] : List (Option Str × Sem Value)).any (·.1.isNone)) = false := by
      rw [hst]
      show ((false || (backTo p3 (starEach es X.env)).any (·.1)) || false) = false
      rw [hpl]
      rfl
    rw [← eP, ← ew, ← eA, ← eE]
    refine callwith_met (a := xa) hplain (by rw [eK]; exact F.fn) ?_
    have z2 := ha.run p3 [] _ σ1 _ _ I3 (q _ nq)
    have hsp0 : backTo p3 (starEach (e1 :: es) X.env) = (false, eval e1 X.env) :: backTo p3 (starEach es X.env) := by
      rw [hst]
      rfl
    rw [hsp0] at z2 ⊢
    refine Calls.evalArgs_plain (wpAny_mono z2 (fun us s3 hz => ?_) fun e s' z => ?_)
    · obtain ⟨ws, H2, I4, r4, hq2, hsp2⟩ := hz
      refine ⟨met_P I4 hq2, wpAny_call (call_met I4 hq2 (codeAny_mono (run_fnR (E := fun _ _ _ => False) (us := Value.ref xa :: us) (vs := V.ref xa :: ws) (by rw [eP, ew, eK, em, eb]; exact FI) hrX C8.pass0 I4 (.cons rfl r4) hsp2) fun r s' hr' => ?_))⟩
      cases r with
      | error e =>
        rw [ex] at hr'
        exact hr'.elim
      | ok fl =>
        cases fl with
        | ret v =>
          obtain ⟨v', H3, I5, _, q3⟩ := hr'
          show _root_.PySem.wpAt _ _ _ (execs rest _) _ _ _
          have z3 := h3.run [] s' σ1 H3 _ I5 q3
          rw [ex] at z3
          have z4 := wpAt_of_wpAny (c := .func (st1 :: .Expr (.Call (.Attribute (.Call (.Name "super" p0) [] [] p1) "__init__" p2) (e1 :: es) [] p3) p4 :: rest) X.env) z3
          refine ks_wpAt_mono z4 (fun fl s'' hs => ?_) fun _ _ z => z.elim
          rw [eP, ew]
          exact ends _ fl s'' rfl rfl rfl rfl hs
        | next => exact False.elim hr'
        | brk => exact False.elim hr'
        | cont => exact False.elim hr'
    · rw [ex] at z
      exact z.elim
end
end W73
set_option Elab.async false
set_option linter.all false
set_option maxRecDepth 100000
set_option maxHeartbeats 4000000
namespace W73
open PySem PySem.Spec PyProof.Rows L2
/-! ### list(d), d a written dict of the module -/
def strOf : Value → Option Str
  | .str x _ => some x
  | _ => none
/-- at d: a written dict whose keys are the texts names, in this order -/
def KKeys (K : PySem.W.Frag) (d : Addr) (names : List Str) : Prop :=
  ∃ es n, K.lookup d = some ⟨.type "dict", none, .dict es n, #[]⟩ ∧ (d == sysModules) = false ∧ es.toList.map (fun e => strOf e.key) = names.map some ∧ names.length ≤ sizeLine
theorem strOf_rel {v : Value} {x : Str} (h : strOf v = some x) : RelV (.str x) v := by
  cases v <;> simp [strOf] at h
  subst h
  exact ⟨_, rfl⟩
theorem call_listK {X : Cx} (hc : X.calm = true) : CallR X (.type "list") (fun xs H Q => ∃ d names, xs = [V.ref d] ∧ KKeys X.K d names ∧ ∀ p, H p = none → Q (.ref p) (upd H p (.lst (names.map .str)))) := by
  intro pins s σ H xs us Q I r h
  obtain ⟨d, names, rfl, ⟨es, n, hk, hs, hn, hz⟩, q⟩ := h
  obtain ⟨u, rfl, rx⟩ := r.one
  cases rx
  have ho := I.kIn _ _ hk
  have hl : es.size = names.length := by
    have e := congrArg List.length hn
    simpa using e
  refine PySem.W.kdl_call (kdl_raw (o := ⟨.type "dict", none, .dict es n, #[]⟩) hs ⟨rfl, rfl, rfl⟩ rfl) (I.ok.hd hc) ho (by omega) fun h' tk acc' c' kp e it => ?_
  have el : acc'.toList.length = acc'.size := by simp
  refine ⟨.ref s.heap.objs.size, upd H s.heap.objs.size (.lst (names.map .str)), I.laid kp (Nat.le_refl _) (show ObjOk X.prog X.w _ _ _ (.lst (names.map .str)) from ⟨by rw [List.length_map]; exact hz, acc'.toList, c', ?_, by rw [Array.toArray_toList]; exact e⟩), rfl, q _ (I.hok.fresh (Nat.le_refl _))⟩
  refine vals_of_at (by rw [List.length_map, el, it.1, hl]) fun j x w h1 h2 => ?_
  obtain ⟨en, hen, hv⟩ := it.2 j w (by rw [← Array.getElem?_toList]; exact h2)
  have q1 : (es.toList.map fun e => strOf e.key)[j]? = some (strOf en.key) := by
    rw [List.getElem?_map, Array.getElem?_toList, hen]
    rfl
  rw [hn, List.getElem?_map] at q1
  rw [List.getElem?_map] at h1
  cases q2 : names[j]? with
  | none => rw [q2] at q1; cases q1
  | some z =>
    rw [q2] at q1 h1
    cases h1
    rw [hv]
    exact strOf_rel (Option.some.inj q1).symm
end W73
set_option Elab.async false
set_option linter.all false
set_option maxRecDepth 100000
set_option maxHeartbeats 4000000
namespace W73
open PySem PySem.Spec PyProof.Rows L2
open C8 (Cal Met Mak pe_c pe_mk pe_mt pe_mt0 pe_gc pss_cut tCut)
/-! ### the module's constants -/
def kCOMMON : List Str := ["page", "code", "line", "timer"]
def kSPECS : List Str := ["mode", "table", "handler", "enabled", "timer", "cause", "back", "was", "fault"]
def kRIGHTS : List Str := ["", "r", "w", "x", "rw", "rx", "wx", "rwx"]
def kFORMS : List (Str × List Str) := [("move", ["ref", "ref"]), ("prim", ["ref", "prim", "args"]), ("load", ["ref", "ref"]), ("store", ["ref", "ref"]), ("goto", ["ref"]), ("get", ["ref", "special"]), ("put", ["special", "ref"]), ("in", ["ref", "port"]), ("out", ["port", "ref"]), ("trap", ["cause"]), ("if", ["ref", "rows", "rows"])]
structure Tz (P : Program) (w : World) (K : PySem.W.Frag) (mg : Str → Option Value) : Prop extends Tx K mg where
  t_COMMON : ∀ H, SqT K H (He.ga K "COMMON") (kCOMMON.map V.str)
  t_SPECIALS_books : ∀ H, SqT K H (He.ga K "SPECIALS_books") (kSPECS.map V.str)
  t_SPECIALS_machines : ∀ H, SqT K H (He.ga K "SPECIALS_machines") (kSPECS.map V.str)
  t_RIGHTS : ∀ H, SqT K H (He.ga K "RIGHTS") (kRIGHTS.map V.str)
  y_FORMS : KKeys K (He.ga K "FORMS") (kFORMS.map (·.1))
  d_FORMS : ∀ x l, (x, l) ∈ kFORMS → ∃ b, (∀ H, SqT K H b (l.map V.str)) ∧ KDct K w (He.ga K "FORMS") x (.ref b)
  s_BoxView : ∃ f cc f2 cda fd, SupF P K mg f cc (C_BoxView K) f2 cda "__init__" "BoxView.__init__" (defArgs s_BoxView_init) (defBody s_BoxView_init) (defScope s_BoxView_init) fd ∧ Mk K (C_BoxView K) f ∧ mg "BoxView" = some (.ref (C_BoxView K)) ∧
    ∃ fd2, FunD K "__init__" "View.__init__" (defArgs s_View_init) (defBody s_View_init) (defScope s_View_init) [] [] f2 fd2
/-! ### rows of instructions -/
inductive Rf
  | op (k : Nat)
  | tmp (k : Nat)
deriving DecidableEq
def Rf.d : Rf → D
  | .op k => .t [.s "op", .i k]
  | .tmp k => .t [.s "tmp", .i k]
/-- n operands -/
def Rf.ok (n : Nat) : Rf → Bool
  | .op k => decide (k < n)
  | .tmp k => decide (k < 4)
inductive R0
  | move (a b : Rf)
  | prim (a : Rf) (p : Str) (l : List Rf)
  | load (a b : Rf)
  | store (a b : Rf)
  | goto (a : Rf)
  | get (a : Rf) (x : Str)
  | put (x : Str) (a : Rf)
  | inn (a : Rf)
  | out (a : Rf)
  | trap (c : Str)
deriving DecidableEq
inductive Row
  | r (r : R0)
  | iff (a : Rf) (x y : List R0)
def R0.ds : R0 → List D
  | .move a b => [.s "move", a.d, b.d]
  | .prim a p l => [.s "prim", a.d, .s p, .t (l.map Rf.d)]
  | .load a b => [.s "load", a.d, b.d]
  | .store a b => [.s "store", a.d, b.d]
  | .goto a => [.s "goto", a.d]
  | .get a x => [.s "get", a.d, .s x]
  | .put x a => [.s "put", .s x, a.d]
  | .inn a => [.s "in", a.d, .s "keys"]
  | .out a => [.s "out", .s "tty", a.d]
  | .trap c => [.s "trap", .s c]
def R0.d (r : R0) : D := .t r.ds
def Row.ds : Row → List D
  | .r z => z.ds
  | .iff a x y => [.s "if", a.d, .t (x.map R0.d), .t (y.map R0.d)]
def Row.d (r : Row) : D := .t r.ds
def kPRIMS : List (Str × Nat) := [("sum", 2), ("less", 1), ("unit", 0)]
def kCAUSES : List Str := ["call", "oops"]
def kPORTS : List Str := ["tty", "keys"]
def R0.ok (n : Nat) : R0 → Bool
  | .move a b => a.ok n && b.ok n
  | .prim a p l => a.ok n && decide (kPRIMS.lookup p = some l.length) && l.all (Rf.ok n)
  | .load a b => a.ok n && b.ok n
  | .store a b => a.ok n && b.ok n
  | .goto a => a.ok n
  | .get a x => a.ok n && decide (x ∈ kSPECS)
  | .put x a => decide (x ∈ kSPECS) && a.ok n
  | .inn a => a.ok n
  | .out a => a.ok n
  | .trap c => decide (c ∈ kCAUSES)
/-- at most m levels of if -/
def Row.ok (n m : Nat) : Row → Bool
  | .r z => z.ok n
  | .iff a x y => decide (0 < m) && a.ok n && decide (x.length ≤ 8) && x.all (R0.ok n) && decide (y.length ≤ 8) && y.all (R0.ok n)
def Rows.ok (n m : Nat) (l : List Row) : Bool := decide (l.length ≤ 8) && l.all (Row.ok n m)
structure Ins where
  nm : Str
  n : Nat
  us : List Row
  sy : List Row
def Ins.ds (i : Ins) : List D := [.s i.nm, .i i.n, .t (i.us.map Row.d), .t (i.sy.map Row.d)]
def Ins.d (i : Ins) : D := .t i.ds
/-- a name of the book's kind -/
def nameOk (x : Str) : Bool := decide (1 ≤ x.length) && decide (x.length ≤ 12) && (x.cps.toList.head?.any fun c => decide (c ∈ ("abcdefghijklmnopqrstuvwxyz" : Str).cps.toList)) && x.cps.toList.all fun c => decide (c ∈ ("abcdefghijklmnopqrstuvwxyz0123456789" : Str).cps.toList)
def Ins.ok (i : Ins) : Bool := nameOk i.nm && decide (i.n ≤ 3) && Rows.ok i.n 1 i.us && Rows.ok i.n 1 i.sy
/-! ### lists of data -/
/-- at p: a list of the data ds -/
def LD (H : Hp) (p : Addr) (ds : List D) : Prop := ∃ vs, H p = some (.lst vs) ∧ TDs H ds vs
theorem LD.same {H H' : Hp} {p : Addr} {ds : List D} (m : Same H H') : LD H p ds → LD H' p ds := fun ⟨vs, h, t⟩ => ⟨vs, m _ _ h, t.mono (.of m)⟩
theorem TDs.strs {H : Hp} : ∀ {xs : List Str} {vs : List V}, TDs H (xs.map D.s) vs → vs = xs.map V.str
  | [], _, .nil => rfl
  | x :: xs, _, .cons a b => by
    cases a
    rw [TDs.strs b]
    rfl
theorem TDs.of_strs {H : Hp} : ∀ (xs : List Str), TDs H (xs.map D.s) (xs.map V.str)
  | [] => .nil
  | x :: xs => .cons (.s x) (TDs.of_strs xs)
theorem TDs.ints {H : Hp} : ∀ {xs : List Int} {vs : List V}, TDs H (xs.map D.i) vs → vs = xs.map V.int
  | [], _, .nil => rfl
  | x :: xs, _, .cons a b => by
    cases a
    rw [TDs.ints b]
    rfl
theorem TDs.of_ints {H : Hp} : ∀ (xs : List Int), TDs H (xs.map D.i) (xs.map V.int)
  | [] => .nil
  | x :: xs => .cons (.i x) (TDs.of_ints xs)
/-! ### a heap without some places -/
def Wo (S : List Addr) (H : Hp) : Hp := fun b => if b ∈ S then none else H b
theorem Wo.to {S : List Addr} {H : Hp} : Same (Wo S H) H := fun b u e => by
  unfold Wo at e
  split at e
  · cases e
  · exact e
theorem Wo.mono {S : List Addr} {H H' : Hp} (m : Same H H') : Same (Wo S H) (Wo S H') := fun b u e => by
  unfold Wo at e ⊢
  split at e
  · cases e
  · rename_i h
    rw [if_neg h]
    exact m _ _ e
theorem Wo.at {S : List Addr} {H : Hp} {b : Addr} {u : HO} (e : H b = some u) (h : b ∉ S) : Wo S H b = some u := by
  unfold Wo
  rw [if_neg h]
  exact e
theorem Wo.put {S : List Addr} {H : Hp} {b : Addr} {o : HO} (h : b ∈ S) : Wo S (upd H b o) = Wo S H := by
  funext a
  unfold Wo
  split
  · rfl
  · rename_i q
    exact upd_ne fun z => q (by rw [z]; exact h)
theorem Wo.sub {S S' : List Addr} {H : Hp} (h : ∀ b ∈ S, b ∈ S') : Same (Wo S' H) (Wo S H) := fun b u e => by
  unfold Wo at e ⊢
  split at e
  · cases e
  · rename_i q
    rw [if_neg fun z => q (h _ z)]
    exact e
theorem Wo.new {S : List Addr} {H : Hp} {p : Addr} (h : H p = none) : Wo S H p = none := by
  unfold Wo
  split
  · rfl
  · exact h
end W73
set_option Elab.async false
set_option linter.all false
set_option maxRecDepth 100000
set_option maxHeartbeats 4000000
namespace W73
open PySem PySem.Spec PyProof.Rows L2
/-! ### the facts of the top, by names -/
section
variable {K : PySem.W.Frag} {h : Heap} {mg : Str → Option Value} {fa : List He.Fa} {fn : List He.DefD}
theorem td_of {x : Str} {st : Stmt} (X : K.In h) (G : h.Ns mainGlobals mg) (c : He.SaysD fa fn K) (n g : Nat) (hd : fn[n]? = some ⟨(x, none), x, x, defArgs st, defBody st, defScope st, [], []⟩) (hg : fa[g]? = some (.glo x)) : TD K mg x st := ⟨by
  obtain ⟨fd, F⟩ := c.def_ n hd
  exact ⟨_, fd, F, He.glo_ok X G (c.fact g hg)⟩⟩
theorem tm_of {C m qual : Str} {st : Stmt} (c : He.SaysD fa fn K) (n a b : Nat) (hd : fn[n]? = some ⟨(C, some m), m, qual, defArgs st, defBody st, defScope st, [], []⟩) (hc : fa[a]? = some (.cls C)) (hm : fa[b]? = some (.meth C m)) : TM K (He.ga K C) m qual st := ⟨by
  obtain ⟨fd, F⟩ := c.def_ n hd
  exact ⟨_, fd, F, He.cls_ok (c.fact a hc), He.meth_ok (c.fact b hm)⟩⟩
theorem tk_of {C qual : Str} {st : Stmt} (X : K.In h) (G : h.Ns mainGlobals mg) (c : He.SaysD fa fn K) (n a b : Nat) (hd : fn[n]? = some ⟨(C, some "__init__"), "__init__", qual, defArgs st, defBody st, defScope st, [], []⟩) (hc : fa[a]? = some (.mkr C)) (hm : fa[b]? = some (.glo C)) : TK K mg C (He.ga K C) qual st := ⟨by
  obtain ⟨fd, F⟩ := c.def_ n hd
  exact ⟨_, fd, F, He.mkr_ok (c.fact a hc), He.glo_ok X G (c.fact b hm)⟩⟩
theorem ks_of {x z : Str} (X : K.In h) (G : h.Ns mainGlobals mg) (c : He.SaysD fa fn K) (n : Nat) (hd : fa[n]? = some (.str x z)) : ∃ u, mg x = some u ∧ RelV (.str z) u := by
  obtain ⟨t, e⟩ := He.str_ok X G (c.fact n hd)
  exact ⟨_, e, t, rfl⟩
theorem ki_of {x : Str} {z : Int} (X : K.In h) (G : h.Ns mainGlobals mg) (c : He.SaysD fa fn K) (n : Nat) (hd : fa[n]? = some (.int x z)) : ∃ u, mg x = some u ∧ RelV (.int z) u := by
  obtain ⟨t, e⟩ := He.int_ok X G (c.fact n hd)
  exact ⟨_, e, t, rfl⟩
theorem kg_of {x : Str} (X : K.In h) (G : h.Ns mainGlobals mg) (c : He.SaysD fa fn K) (n : Nat) (hd : fa[n]? = some (.glo x)) : ∃ u, mg x = some u ∧ RelV (.ref (He.ga K x)) u := ⟨_, He.glo_ok X G (c.fact n hd), rfl⟩
end
def fn0 : List He.DefD := [⟨("is_stop", none), "is_stop", "is_stop", defArgs s_is_stop, defBody s_is_stop, defScope s_is_stop, [], []⟩, ⟨("stop_words", none), "stop_words", "stop_words", defArgs s_stop_words, defBody s_stop_words, defScope s_stop_words, [], []⟩, ⟨("stop_word", none), "stop_word", "stop_word", defArgs s_stop_word, defBody s_stop_word, defScope s_stop_word, [], []⟩, ⟨("doubtful_places", none), "doubtful_places", "doubtful_places", defArgs s_doubtful_places, defBody s_doubtful_places, defScope s_doubtful_places, [], []⟩, ⟨("copied_words", none), "copied_words", "copied_words", defArgs s_copied_words, defBody s_copied_words, defScope s_copied_words, [], []⟩, ⟨("View", some "__init__"), "__init__", "View.__init__", defArgs s_View_init, defBody s_View_init, defScope s_View_init, [], []⟩, ⟨("View", some "word_at"), "word_at", "View.word_at", defArgs s_View_word_at, defBody s_View_word_at, defScope s_View_word_at, [], []⟩, ⟨("BoxView", some "spot_of"), "spot_of", "BoxView.spot_of", defArgs s_BoxView_spot_of, defBody s_BoxView_spot_of, defScope s_BoxView_spot_of, [], []⟩, ⟨("Draft", some "__init__"), "__init__", "Draft.__init__", defArgs s_Draft_init, defBody s_Draft_init, defScope s_Draft_init, [], []⟩, ⟨("Draft", some "value"), "value", "Draft.value", defArgs s_Draft_value, defBody s_Draft_value, defScope s_Draft_value, [], []⟩, ⟨("Draft", some "assign"), "assign", "Draft.assign", defArgs s_Draft_assign, defBody s_Draft_assign, defScope s_Draft_assign, [], []⟩, ⟨("Draft", some "taken"), "taken", "Draft.taken", defArgs s_Draft_taken, defBody s_Draft_taken, defScope s_Draft_taken, [], []⟩]
def fn1 : List He.DefD := [⟨("Draft", some "touch"), "touch", "Draft.touch", defArgs s_Draft_touch, defBody s_Draft_touch, defScope s_Draft_touch, [], []⟩, ⟨("Draft", some "settle"), "settle", "Draft.settle", defArgs s_Draft_settle, defBody s_Draft_settle, defScope s_Draft_settle, [], []⟩, ⟨("Draft", some "frames"), "frames", "Draft.frames", defArgs s_Draft_frames, defBody s_Draft_frames, defScope s_Draft_frames, [], []⟩, ⟨("carry_out", none), "carry_out", "carry_out", defArgs s_carry_out, defBody s_carry_out, defScope s_carry_out, [], []⟩, ⟨("tried", none), "tried", "tried", defArgs s_tried, defBody s_tried, defScope s_tried, [], []⟩, ⟨("next_pc", none), "next_pc", "next_pc", defArgs s_next_pc, defBody s_next_pc, defScope s_next_pc, [], []⟩, ⟨("are_words", none), "are_words", "are_words", defArgs s_are_words, defBody s_are_words, defScope s_are_words, [], []⟩, ⟨("are_frames", none), "are_frames", "are_frames", defArgs s_are_frames, defBody s_are_frames, defScope s_are_frames, [], []⟩, ⟨("are_specials", none), "are_specials", "are_specials", defArgs s_are_specials, defBody s_are_specials, defScope s_are_specials, [], []⟩, ⟨("are_by_ports", none), "are_by_ports", "are_by_ports", defArgs s_are_by_ports, defBody s_are_by_ports, defScope s_are_by_ports, [], []⟩, ⟨("are_outs", none), "are_outs", "are_outs", defArgs s_are_outs, defBody s_are_outs, defScope s_are_outs, [], []⟩, ⟨("Box", some "__init__"), "__init__", "Box.__init__", defArgs s_Box_init, defBody s_Box_init, defScope s_Box_init, [], []⟩]
def fn2 : List He.DefD := [⟨("Box", some "frames"), "frames", "Box.frames", defArgs s_Box_frames, defBody s_Box_frames, defScope s_Box_frames, [], []⟩, ⟨("Box", some "specials"), "specials", "Box.specials", defArgs s_Box_specials, defBody s_Box_specials, defScope s_Box_specials, [], []⟩, ⟨("Box", some "answers"), "answers", "Box.answers", defArgs s_Box_answers, defBody s_Box_answers, defScope s_Box_answers, [], []⟩, ⟨("Box", some "outs"), "outs", "Box.outs", defArgs s_Box_outs, defBody s_Box_outs, defScope s_Box_outs, [], []⟩, ⟨("Box", some "bare"), "bare", "Box.bare", defArgs s_Box_bare, defBody s_Box_bare, defScope s_Box_bare, [], []⟩, ⟨("is_name", none), "is_name", "is_name", defArgs s_is_name, defBody s_is_name, defScope s_is_name, [], []⟩, ⟨("is_count", none), "is_count", "is_count", defArgs s_is_count, defBody s_is_count, defScope s_is_count, [], []⟩, ⟨("is_known", none), "is_known", "is_known", defArgs s_is_known, defBody s_is_known, defScope s_is_known, [], []⟩, ⟨("wrong_names", none), "wrong_names", "wrong_names", defArgs s_wrong_names, defBody s_wrong_names, defScope s_wrong_names, [], []⟩, ⟨("wrong_primitives", none), "wrong_primitives", "wrong_primitives", defArgs s_wrong_primitives, defBody s_wrong_primitives, defScope s_wrong_primitives, [], []⟩, ⟨("wrong_causes", none), "wrong_causes", "wrong_causes", defArgs s_wrong_causes, defBody s_wrong_causes, defScope s_wrong_causes, [], []⟩, ⟨("wrong_ref", none), "wrong_ref", "wrong_ref", defArgs s_wrong_ref, defBody s_wrong_ref, defScope s_wrong_ref, [], []⟩]
def fn3 : List He.DefD := [⟨("wrong_args", none), "wrong_args", "wrong_args", defArgs s_wrong_args, defBody s_wrong_args, defScope s_wrong_args, [], []⟩, ⟨("names_for", none), "names_for", "names_for", defArgs s_names_for, defBody s_names_for, defScope s_names_for, [], []⟩, ⟨("wrong_member", none), "wrong_member", "wrong_member", defArgs s_wrong_member, defBody s_wrong_member, defScope s_wrong_member, [], []⟩, ⟨("wrong_row", none), "wrong_row", "wrong_row", defArgs s_wrong_row, defBody s_wrong_row, defScope s_wrong_row, [], []⟩, ⟨("wrong_rows", none), "wrong_rows", "wrong_rows", defArgs s_wrong_rows, defBody s_wrong_rows, defScope s_wrong_rows, [], []⟩, ⟨("wrong_instruction", none), "wrong_instruction", "wrong_instruction", defArgs s_wrong_instruction, defBody s_wrong_instruction, defScope s_wrong_instruction, [], []⟩, ⟨("wrong_instructions", none), "wrong_instructions", "wrong_instructions", defArgs s_wrong_instructions, defBody s_wrong_instructions, defScope s_wrong_instructions, [], []⟩, ⟨("lot_of", none), "lot_of", "lot_of", defArgs s_lot_of, defBody s_lot_of, defScope s_lot_of, [], []⟩, ⟨("wrong_book", none), "wrong_book", "wrong_book", defArgs s_wrong_book, defBody s_wrong_book, defScope s_wrong_book, [], []⟩, ⟨("Book", some "__init__"), "__init__", "Book.__init__", defArgs s_Book_init, defBody s_Book_init, defScope s_Book_init, [], []⟩, ⟨("Book", some "registers"), "registers", "Book.registers", defArgs s_Book_registers, defBody s_Book_registers, defScope s_Book_registers, [], []⟩, ⟨("Book", some "primitives"), "primitives", "Book.primitives", defArgs s_Book_primitives, defBody s_Book_primitives, defScope s_Book_primitives, [], []⟩]
def fn4 : List He.DefD := [⟨("Book", some "causes"), "causes", "Book.causes", defArgs s_Book_causes, defBody s_Book_causes, defScope s_Book_causes, [], []⟩, ⟨("Book", some "ports"), "ports", "Book.ports", defArgs s_Book_ports, defBody s_Book_ports, defScope s_Book_ports, [], []⟩, ⟨("Book", some "instructions"), "instructions", "Book.instructions", defArgs s_Book_instructions, defBody s_Book_instructions, defScope s_Book_instructions, [], []⟩, ⟨("Book", some "instruction"), "instruction", "Book.instruction", defArgs s_Book_instruction, defBody s_Book_instruction, defScope s_Book_instruction, [], []⟩, ⟨("is_below", none), "is_below", "is_below", defArgs s_is_below, defBody s_is_below, defScope s_is_below, [], []⟩, ⟨("are_below", none), "are_below", "are_below", defArgs s_are_below, defBody s_are_below, defScope s_are_below, [], []⟩, ⟨("is_table", none), "is_table", "is_table", defArgs s_is_table, defBody s_is_table, defScope s_is_table, [], []⟩, ⟨("are_tables", none), "are_tables", "are_tables", defArgs s_are_tables, defBody s_are_tables, defScope s_are_tables, [], []⟩, ⟨("is_entry", none), "is_entry", "is_entry", defArgs s_is_entry, defBody s_is_entry, defScope s_is_entry, [], []⟩, ⟨("is_code", none), "is_code", "is_code", defArgs s_is_code, defBody s_is_code, defScope s_is_code, [], []⟩, ⟨("wrong_part", none), "wrong_part", "wrong_part", defArgs s_wrong_part, defBody s_wrong_part, defScope s_wrong_part, [], []⟩, ⟨("Meaning", some "__init__"), "__init__", "Meaning.__init__", defArgs s_Meaning_init, defBody s_Meaning_init, defScope s_Meaning_init, [], []⟩]
def fn5 : List He.DefD := [⟨("Meaning", some "book"), "book", "Meaning.book", defArgs s_Meaning_book, defBody s_Meaning_book, defScope s_Meaning_book, [], []⟩, ⟨("Meaning", some "places"), "places", "Meaning.places", defArgs s_Meaning_places, defBody s_Meaning_places, defScope s_Meaning_places, [], []⟩, ⟨("Meaning", some "words"), "words", "Meaning.words", defArgs s_Meaning_words, defBody s_Meaning_words, defScope s_Meaning_words, [], []⟩, ⟨("Meaning", some "is_word"), "is_word", "Meaning.is_word", defArgs s_Meaning_is_word, defBody s_Meaning_is_word, defScope s_Meaning_is_word, [], []⟩, ⟨("Meaning", some "page"), "page", "Meaning.page", defArgs s_Meaning_page, defBody s_Meaning_page, defScope s_Meaning_page, [], []⟩, ⟨("Meaning", some "place"), "place", "Meaning.place", defArgs s_Meaning_place, defBody s_Meaning_place, defScope s_Meaning_place, [], []⟩, ⟨("Meaning", some "next"), "next", "Meaning.next", defArgs s_Meaning_next, defBody s_Meaning_next, defScope s_Meaning_next, [], []⟩, ⟨("Meaning", some "apply"), "apply", "Meaning.apply", defArgs s_Meaning_apply, defBody s_Meaning_apply, defScope s_Meaning_apply, [], []⟩, ⟨("Meaning", some "code_of"), "code_of", "Meaning.code_of", defArgs s_Meaning_code_of, defBody s_Meaning_code_of, defScope s_Meaning_code_of, [], []⟩, ⟨("_law_source", none), "_law_source", "_law_source", defArgs s_law_source, defBody s_law_source, defScope s_law_source, [], []⟩, ⟨("_law_pick", none), "_law_pick", "_law_pick", defArgs s_law_pick, defBody s_law_pick, defScope s_law_pick, [], []⟩, ⟨("_law_menu", none), "_law_menu", "_law_menu", defArgs s_law_menu, defBody s_law_menu, defScope s_law_menu, [], []⟩]
def fn6 : List He.DefD := [⟨("_law_ref", none), "_law_ref", "_law_ref", defArgs s_law_ref, defBody s_law_ref, defScope s_law_ref, [], []⟩, ⟨("_law_drawn_row", none), "_law_drawn_row", "_law_drawn_row", defArgs s_law_drawn_row, defBody s_law_drawn_row, defScope s_law_drawn_row, [], []⟩, ⟨("_law_drawn_rows", none), "_law_drawn_rows", "_law_drawn_rows", defArgs s_law_drawn_rows, defBody s_law_drawn_rows, defScope s_law_drawn_rows, [], []⟩, ⟨("_law_with_meaning", none), "_law_with_meaning", "_law_with_meaning", defArgs s_law_with_meaning, defBody s_law_with_meaning, defScope s_law_with_meaning, [], []⟩, ⟨("_law_house", none), "_law_house", "_law_house", defArgs s_law_house, defBody s_law_house, defScope s_law_house, [], []⟩, ⟨("_law_eased", none), "_law_eased", "_law_eased", defArgs s_law_eased, defBody s_law_eased, defScope s_law_eased, [], []⟩, ⟨("_law_any_house", none), "_law_any_house", "_law_any_house", defArgs s_law_any_house, defBody s_law_any_house, defScope s_law_any_house, [], []⟩, ⟨("_law_box", none), "_law_box", "_law_box", defArgs s_law_box, defBody s_law_box, defScope s_law_box, [], []⟩, ⟨("_law_parts", none), "_law_parts", "_law_parts", defArgs s_law_parts, defBody s_law_parts, defScope s_law_parts, [], []⟩, ⟨("law", none), "law", "law", defArgs s_law, defBody s_law, defScope s_law, [], []⟩, ⟨("BoxView", some "word_at"), "word_at", "View.word_at", defArgs s_View_word_at, defBody s_View_word_at, defScope s_View_word_at, [], []⟩]
def fn : List He.DefD := fn0 ++ (fn1 ++ (fn2 ++ (fn3 ++ (fn4 ++ (fn5 ++ (fn6))))))
def fa0 : List He.Fa := [.free "isinstance", .free "len", .free "list", .free "tuple", .free "dict", .free "all", .free "max", .free "int", .free "abs", .free "repr", .free "range", .free "enumerate"]
def fa1 : List He.Fa := [.free "str", .free "bool", .free "super", .glo "is_stop", .glo "stop_words", .glo "stop_word", .glo "doubtful_places", .glo "copied_words", .mkr "View", .glo "View", .cls "View", .meth "View" "word_at"]
def fa2 : List He.Fa := [.cls "BoxView", .meth "BoxView" "spot_of", .mkr "Draft", .glo "Draft", .cls "Draft", .meth "Draft" "value", .meth "Draft" "assign", .meth "Draft" "taken", .meth "Draft" "touch", .meth "Draft" "settle", .meth "Draft" "frames", .glo "carry_out"]
def fa3 : List He.Fa := [.glo "tried", .glo "next_pc", .glo "are_words", .glo "are_frames", .glo "are_specials", .glo "are_by_ports", .glo "are_outs", .mkr "Box", .glo "Box", .cls "Box", .meth "Box" "frames", .meth "Box" "specials"]
def fa4 : List He.Fa := [.meth "Box" "answers", .meth "Box" "outs", .meth "Box" "bare", .glo "is_name", .glo "is_count", .glo "is_known", .glo "wrong_names", .glo "wrong_primitives", .glo "wrong_causes", .glo "wrong_ref", .glo "wrong_args", .glo "names_for"]
def fa5 : List He.Fa := [.glo "wrong_member", .glo "wrong_row", .glo "wrong_rows", .glo "wrong_instruction", .glo "wrong_instructions", .glo "lot_of", .glo "wrong_book", .mkr "Book", .glo "Book", .cls "Book", .meth "Book" "registers", .meth "Book" "primitives"]
def fa6 : List He.Fa := [.meth "Book" "causes", .meth "Book" "ports", .meth "Book" "instructions", .meth "Book" "instruction", .glo "is_below", .glo "are_below", .glo "is_table", .glo "are_tables", .glo "is_entry", .glo "is_code", .glo "wrong_part", .mkr "Meaning"]
def fa7 : List He.Fa := [.glo "Meaning", .cls "Meaning", .meth "Meaning" "book", .meth "Meaning" "places", .meth "Meaning" "words", .meth "Meaning" "is_word", .meth "Meaning" "page", .meth "Meaning" "place", .meth "Meaning" "next", .meth "Meaning" "apply", .meth "Meaning" "code_of", .glo "_law_source"]
def fa8 : List He.Fa := [.glo "_law_pick", .glo "_law_menu", .glo "_law_ref", .glo "_law_drawn_row", .glo "_law_drawn_rows", .glo "_law_with_meaning", .glo "_law_house", .glo "_law_eased", .glo "_law_any_house", .glo "_law_box", .glo "_law_parts", .glo "law"]
def fa9 : List He.Fa := [.meth "BoxView" "word_at", .noat "View" "ground", .noat "View" "frame_rows", .noat "View" "special_words", .noat "View" "out_rows", .noat "View" "answer_rows", .noat "View" "moment", .noat "BoxView" "ground", .noat "BoxView" "frame_rows", .noat "BoxView" "special_words", .noat "BoxView" "out_rows", .noat "BoxView" "answer_rows"]
def fa10 : List He.Fa := [.noat "BoxView" "moment", .noat "BoxView" "mapping", .noat "Draft" "view", .noat "Draft" "spots", .noat "Draft" "seats", .noat "Draft" "temporaries", .noat "Draft" "cells", .noat "Draft" "special_words", .noat "Draft" "out_rows", .noat "Draft" "answer_rows", .noat "Draft" "goal", .noat "Box" "ground"]
def fa11 : List He.Fa := [.noat "Box" "frame_rows", .noat "Box" "special_words", .noat "Box" "answer_rows", .noat "Box" "out_rows", .noat "Book" "width", .noat "Book" "pairs", .noat "Book" "own", .noat "Book" "doors", .noat "Book" "held", .noat "Meaning" "ground", .noat "Meaning" "wide", .noat "Meaning" "high"]
def fa12 : List He.Fa := [.noat "Meaning" "results", .noat "Meaning" "spots", .noat "Meaning" "deeds", .str "LETTERS" "abcdefghijklmnopqrstuvwxyz", .str "SIGNS" "abcdefghijklmnopqrstuvwxyz0123456789", .int "MOST_SIGNS" 12, .int "TEMPORARIES" 4, .glo "COMMON", .glo "SPECIALS_books", .glo "SPECIALS_machines", .glo "RIGHTS", .glo "FORMS"]
def fa13 : List He.Fa := [.mkr "BoxView", .glo "BoxView"]
def fa : List He.Fa := fa0 ++ (fa1 ++ (fa2 ++ (fa3 ++ (fa4 ++ (fa5 ++ (fa6 ++ (fa7 ++ (fa8 ++ (fa9 ++ (fa10 ++ (fa11 ++ (fa12 ++ (fa13)))))))))))))
-- BoxView: mkr 156 glo 157; View.__init__ 5
theorem tx_of {K : PySem.W.Frag} {h : Heap} {mg : Str → Option Value} (X : K.In h) (G : h.Ns mainGlobals mg) (c : He.SaysD fa fn K) : Tx K mg where
  b_isinstance := He.free_ok X G (c.fact 0 (f := .free "isinstance") rfl)
  b_len := He.free_ok X G (c.fact 1 (f := .free "len") rfl)
  b_list := He.free_ok X G (c.fact 2 (f := .free "list") rfl)
  b_tuple := He.free_ok X G (c.fact 3 (f := .free "tuple") rfl)
  b_dict := He.free_ok X G (c.fact 4 (f := .free "dict") rfl)
  b_all := He.free_ok X G (c.fact 5 (f := .free "all") rfl)
  b_max := He.free_ok X G (c.fact 6 (f := .free "max") rfl)
  b_int := He.free_ok X G (c.fact 7 (f := .free "int") rfl)
  b_abs := He.free_ok X G (c.fact 8 (f := .free "abs") rfl)
  b_repr := He.free_ok X G (c.fact 9 (f := .free "repr") rfl)
  b_range := He.free_ok X G (c.fact 10 (f := .free "range") rfl)
  b_enumerate := He.free_ok X G (c.fact 11 (f := .free "enumerate") rfl)
  b_str := He.free_ok X G (c.fact 12 (f := .free "str") rfl)
  b_bool := He.free_ok X G (c.fact 13 (f := .free "bool") rfl)
  b_super := He.free_ok X G (c.fact 14 (f := .free "super") rfl)
  f_is_stop := td_of X G c 0 15 rfl rfl
  f_stop_words := td_of X G c 1 16 rfl rfl
  f_stop_word := td_of X G c 2 17 rfl rfl
  f_doubtful_places := td_of X G c 3 18 rfl rfl
  f_copied_words := td_of X G c 4 19 rfl rfl
  f_View_init := tk_of X G c 5 20 21 rfl rfl rfl
  f_View_word_at := tm_of c 6 22 23 rfl rfl rfl
  f_BoxView_spot_of := tm_of c 7 24 25 rfl rfl rfl
  f_Draft_init := tk_of X G c 8 26 27 rfl rfl rfl
  f_Draft_value := tm_of c 9 28 29 rfl rfl rfl
  f_Draft_assign := tm_of c 10 28 30 rfl rfl rfl
  f_Draft_taken := tm_of c 11 28 31 rfl rfl rfl
  f_Draft_touch := tm_of c 12 28 32 rfl rfl rfl
  f_Draft_settle := tm_of c 13 28 33 rfl rfl rfl
  f_Draft_frames := tm_of c 14 28 34 rfl rfl rfl
  f_carry_out := td_of X G c 15 35 rfl rfl
  f_tried := td_of X G c 16 36 rfl rfl
  f_next_pc := td_of X G c 17 37 rfl rfl
  f_are_words := td_of X G c 18 38 rfl rfl
  f_are_frames := td_of X G c 19 39 rfl rfl
  f_are_specials := td_of X G c 20 40 rfl rfl
  f_are_by_ports := td_of X G c 21 41 rfl rfl
  f_are_outs := td_of X G c 22 42 rfl rfl
  f_Box_init := tk_of X G c 23 43 44 rfl rfl rfl
  f_Box_frames := tm_of c 24 45 46 rfl rfl rfl
  f_Box_specials := tm_of c 25 45 47 rfl rfl rfl
  f_Box_answers := tm_of c 26 45 48 rfl rfl rfl
  f_Box_outs := tm_of c 27 45 49 rfl rfl rfl
  f_Box_bare := tm_of c 28 45 50 rfl rfl rfl
  f_is_name := td_of X G c 29 51 rfl rfl
  f_is_count := td_of X G c 30 52 rfl rfl
  f_is_known := td_of X G c 31 53 rfl rfl
  f_wrong_names := td_of X G c 32 54 rfl rfl
  f_wrong_primitives := td_of X G c 33 55 rfl rfl
  f_wrong_causes := td_of X G c 34 56 rfl rfl
  f_wrong_ref := td_of X G c 35 57 rfl rfl
  f_wrong_args := td_of X G c 36 58 rfl rfl
  f_names_for := td_of X G c 37 59 rfl rfl
  f_wrong_member := td_of X G c 38 60 rfl rfl
  f_wrong_row := td_of X G c 39 61 rfl rfl
  f_wrong_rows := td_of X G c 40 62 rfl rfl
  f_wrong_instruction := td_of X G c 41 63 rfl rfl
  f_wrong_instructions := td_of X G c 42 64 rfl rfl
  f_lot_of := td_of X G c 43 65 rfl rfl
  f_wrong_book := td_of X G c 44 66 rfl rfl
  f_Book_init := tk_of X G c 45 67 68 rfl rfl rfl
  f_Book_registers := tm_of c 46 69 70 rfl rfl rfl
  f_Book_primitives := tm_of c 47 69 71 rfl rfl rfl
  f_Book_causes := tm_of c 48 69 72 rfl rfl rfl
  f_Book_ports := tm_of c 49 69 73 rfl rfl rfl
  f_Book_instructions := tm_of c 50 69 74 rfl rfl rfl
  f_Book_instruction := tm_of c 51 69 75 rfl rfl rfl
  f_is_below := td_of X G c 52 76 rfl rfl
  f_are_below := td_of X G c 53 77 rfl rfl
  f_is_table := td_of X G c 54 78 rfl rfl
  f_are_tables := td_of X G c 55 79 rfl rfl
  f_is_entry := td_of X G c 56 80 rfl rfl
  f_is_code := td_of X G c 57 81 rfl rfl
  f_wrong_part := td_of X G c 58 82 rfl rfl
  f_Meaning_init := tk_of X G c 59 83 84 rfl rfl rfl
  f_Meaning_book := tm_of c 60 85 86 rfl rfl rfl
  f_Meaning_places := tm_of c 61 85 87 rfl rfl rfl
  f_Meaning_words := tm_of c 62 85 88 rfl rfl rfl
  f_Meaning_is_word := tm_of c 63 85 89 rfl rfl rfl
  f_Meaning_page := tm_of c 64 85 90 rfl rfl rfl
  f_Meaning_place := tm_of c 65 85 91 rfl rfl rfl
  f_Meaning_next := tm_of c 66 85 92 rfl rfl rfl
  f_Meaning_apply := tm_of c 67 85 93 rfl rfl rfl
  f_Meaning_code_of := tm_of c 68 85 94 rfl rfl rfl
  f_law_source := td_of X G c 69 95 rfl rfl
  f_law_pick := td_of X G c 70 96 rfl rfl
  f_law_menu := td_of X G c 71 97 rfl rfl
  f_law_ref := td_of X G c 72 98 rfl rfl
  f_law_drawn_row := td_of X G c 73 99 rfl rfl
  f_law_drawn_rows := td_of X G c 74 100 rfl rfl
  f_law_with_meaning := td_of X G c 75 101 rfl rfl
  f_law_house := td_of X G c 76 102 rfl rfl
  f_law_eased := td_of X G c 77 103 rfl rfl
  f_law_any_house := td_of X G c 78 104 rfl rfl
  f_law_box := td_of X G c 79 105 rfl rfl
  f_law_parts := td_of X G c 80 106 rfl rfl
  f_law := td_of X G c 81 107 rfl rfl
  f_BoxView_word_at := tm_of c 82 24 108 rfl rfl rfl
  c_View := He.cls_ok (c.fact 22 (f := .cls "View") rfl)
  n_View_ground := He.noat_ok (c.fact 109 (f := .noat "View" "ground") rfl)
  n_View_frame_rows := He.noat_ok (c.fact 110 (f := .noat "View" "frame_rows") rfl)
  n_View_special_words := He.noat_ok (c.fact 111 (f := .noat "View" "special_words") rfl)
  n_View_out_rows := He.noat_ok (c.fact 112 (f := .noat "View" "out_rows") rfl)
  n_View_answer_rows := He.noat_ok (c.fact 113 (f := .noat "View" "answer_rows") rfl)
  n_View_moment := He.noat_ok (c.fact 114 (f := .noat "View" "moment") rfl)
  c_BoxView := He.cls_ok (c.fact 24 (f := .cls "BoxView") rfl)
  n_BoxView_ground := He.noat_ok (c.fact 115 (f := .noat "BoxView" "ground") rfl)
  n_BoxView_frame_rows := He.noat_ok (c.fact 116 (f := .noat "BoxView" "frame_rows") rfl)
  n_BoxView_special_words := He.noat_ok (c.fact 117 (f := .noat "BoxView" "special_words") rfl)
  n_BoxView_out_rows := He.noat_ok (c.fact 118 (f := .noat "BoxView" "out_rows") rfl)
  n_BoxView_answer_rows := He.noat_ok (c.fact 119 (f := .noat "BoxView" "answer_rows") rfl)
  n_BoxView_moment := He.noat_ok (c.fact 120 (f := .noat "BoxView" "moment") rfl)
  n_BoxView_mapping := He.noat_ok (c.fact 121 (f := .noat "BoxView" "mapping") rfl)
  c_Draft := He.cls_ok (c.fact 28 (f := .cls "Draft") rfl)
  n_Draft_view := He.noat_ok (c.fact 122 (f := .noat "Draft" "view") rfl)
  n_Draft_spots := He.noat_ok (c.fact 123 (f := .noat "Draft" "spots") rfl)
  n_Draft_seats := He.noat_ok (c.fact 124 (f := .noat "Draft" "seats") rfl)
  n_Draft_temporaries := He.noat_ok (c.fact 125 (f := .noat "Draft" "temporaries") rfl)
  n_Draft_cells := He.noat_ok (c.fact 126 (f := .noat "Draft" "cells") rfl)
  n_Draft_special_words := He.noat_ok (c.fact 127 (f := .noat "Draft" "special_words") rfl)
  n_Draft_out_rows := He.noat_ok (c.fact 128 (f := .noat "Draft" "out_rows") rfl)
  n_Draft_answer_rows := He.noat_ok (c.fact 129 (f := .noat "Draft" "answer_rows") rfl)
  n_Draft_goal := He.noat_ok (c.fact 130 (f := .noat "Draft" "goal") rfl)
  c_Box := He.cls_ok (c.fact 45 (f := .cls "Box") rfl)
  n_Box_ground := He.noat_ok (c.fact 131 (f := .noat "Box" "ground") rfl)
  n_Box_frame_rows := He.noat_ok (c.fact 132 (f := .noat "Box" "frame_rows") rfl)
  n_Box_special_words := He.noat_ok (c.fact 133 (f := .noat "Box" "special_words") rfl)
  n_Box_answer_rows := He.noat_ok (c.fact 134 (f := .noat "Box" "answer_rows") rfl)
  n_Box_out_rows := He.noat_ok (c.fact 135 (f := .noat "Box" "out_rows") rfl)
  c_Book := He.cls_ok (c.fact 69 (f := .cls "Book") rfl)
  n_Book_width := He.noat_ok (c.fact 136 (f := .noat "Book" "width") rfl)
  n_Book_pairs := He.noat_ok (c.fact 137 (f := .noat "Book" "pairs") rfl)
  n_Book_own := He.noat_ok (c.fact 138 (f := .noat "Book" "own") rfl)
  n_Book_doors := He.noat_ok (c.fact 139 (f := .noat "Book" "doors") rfl)
  n_Book_held := He.noat_ok (c.fact 140 (f := .noat "Book" "held") rfl)
  c_Meaning := He.cls_ok (c.fact 85 (f := .cls "Meaning") rfl)
  n_Meaning_ground := He.noat_ok (c.fact 141 (f := .noat "Meaning" "ground") rfl)
  n_Meaning_wide := He.noat_ok (c.fact 142 (f := .noat "Meaning" "wide") rfl)
  n_Meaning_high := He.noat_ok (c.fact 143 (f := .noat "Meaning" "high") rfl)
  n_Meaning_results := He.noat_ok (c.fact 144 (f := .noat "Meaning" "results") rfl)
  n_Meaning_spots := He.noat_ok (c.fact 145 (f := .noat "Meaning" "spots") rfl)
  n_Meaning_deeds := He.noat_ok (c.fact 146 (f := .noat "Meaning" "deeds") rfl)
  k_LETTERS := ks_of X G c 147 rfl
  k_SIGNS := ks_of X G c 148 rfl
  k_MOST_SIGNS := ki_of X G c 149 rfl
  k_TEMPORARIES := ki_of X G c 150 rfl
  k_COMMON := kg_of X G c 151 rfl
  k_SPECIALS_books := kg_of X G c 152 rfl
  k_SPECIALS_machines := kg_of X G c 153 rfl
  k_RIGHTS := kg_of X G c 154 rfl
  k_FORMS := kg_of X G c 155 rfl
end W73
set_option Elab.async false
set_option linter.all false
set_option maxRecDepth 100000
set_option maxHeartbeats 4000000
namespace W73
open PySem PySem.Spec PyProof.Rows L2
/-! ### the part of the heap that is looked at -/
def rfX (o : Obj) : List Addr := match o.data with
  | .dict es _ => es.toList.flatMap fun e => He.refV e.val
  | .func fd => He.refV fd.code ++ fd.closure.map (·.2)
  | .cls cd => [cd.ns]
  | _ => []
def lvX (g : Addr → Option Obj) (as : List Addr) : List Addr := as.flatMap fun a => match g a with
  | some o => rfX o
  | none => []
def adX (g : Addr → Option Obj) : List Addr :=
  let l1 := lvX g [mainGlobals]
  let l2 := lvX g l1
  let l3 := lvX g l2
  mainGlobals :: cStatics :: (l1 ++ (l2 ++ (l3 ++ lvX g l3)))
def frA {α : Type} : List Addr → (List Addr → α) → α
  | [], k => k []
  | a :: r, k => HandSHeadRun.frNat a fun b => frA r fun q => k (b :: q)
theorem frA_eq {α : Type} : ∀ (as : List Addr) (k : List Addr → α), frA as k = k as
  | [], _ => rfl
  | a :: r, k => by
    unfold frA
    rw [HandSHeadRun.frNat_eq, frA_eq r]
def frK {α : Type} (g : Addr → Option Obj) : List Addr → (PySem.W.Frag → α) → α
  | [], k => k []
  | a :: r, k => match g a with
    | some o => frK g r fun K => k ((a, o) :: K)
    | none => frK g r k
theorem frK_eq {α : Type} {g : Addr → Option Obj} : ∀ (as : List Addr) (k : PySem.W.Frag → α), frK g as k = k (He.frG g as)
  | [], _ => rfl
  | a :: r, k => by
    unfold frK He.frG
    rw [List.filterMap_cons]
    cases e : g a with
    | none => exact frK_eq r k
    | some o => exact frK_eq r _
def obG {α : Type} (g : Addr → Option Obj) (k : PySem.W.Frag → α) : α :=
  frA (lvX g [mainGlobals]) fun l1 => frA (lvX g l1) fun l2 => frA (lvX g l2) fun l3 => frA (lvX g l3) fun l4 => frK g (mainGlobals :: cStatics :: (l1 ++ (l2 ++ (l3 ++ l4)))) k
theorem obG_eq {α : Type} {g : Addr → Option Obj} {k : PySem.W.Frag → α} : obG g k = k (He.frG g (adX g)) := by
  unfold obG adX
  rw [frA_eq, frA_eq, frA_eq, frA_eq, frK_eq]
/-! ### more that is looked at -/
def tupAt (K : PySem.W.Frag) (a : Addr) (vs : List V) : Bool := match K.lookup a with
  | some ⟨.type c, _, .seq its _, _⟩ => (c == "tuple" && Nat.ble its.size sizeLine) && He.relAll vs its.toList
  | _ => false
theorem tupAt_ok {K : PySem.W.Frag} {a : Addr} {vs : List V} (e : tupAt K a vs = true) (H : Hp) : SqT K H a vs := by
  unfold tupAt at e
  split at e
  · rename_i c od its n sl q
    simp only [Bool.and_eq_true, beq_iff_eq] at e
    obtain ⟨⟨e1, e2⟩, e3⟩ := e
    subst e1
    exact .inr ⟨_, its, n, q, rfl, rfl, Nat.le_of_ble_eq_true e2, He.relAll_ok e3⟩
  · cases e
def formsB (K : PySem.W.Frag) : Bool := kFORMS.all fun p => match PySem.W.nsIn K (He.ga K "FORMS") p.1 with
  | some (some (.ref b)) => tupAt K b (p.2.map V.str)
  | _ => false
def keysB (K : PySem.W.Frag) : Bool := match K.lookup (He.ga K "FORMS") with
  | some ⟨_, _, .dict es _, _⟩ => decide (es.toList.map (fun e => strOf e.key) = (kFORMS.map (·.1)).map some)
  | _ => false
abbrev prg : Program := PySem.Challenge.pw_worldsalone_k73_whole_bare_steps_on_copi
def bvF (K : PySem.W.Frag) : Addr := He.ma K (He.ga K "BoxView") "__init__"
def vwF (K : PySem.W.Frag) : Addr := He.ma K (He.ga K "View") "__init__"
def supB (K : PySem.W.Frag) : Bool := match K.lookup (bvF K) with
  | some ⟨_, _, .func fd, _⟩ => (match fd.closure, fd.code, fd.defaults, fd.kwdefaults with
    | [(_, cc)], .ref cda, .none, .none => PySem.W.codeIn K (.ref cda) "BoxView.__init__" && ((match K.lookup cda with
        | some ⟨_, _, .fields vs, _⟩ => (match (vs[2]? : Option Value) with
          | some (Value.str f _) => prg.main.file == f
          | _ => false)
        | _ => false) && (match K.lookup cc with
        | some ⟨_, _, .cell (some (.ref D)), _⟩ => D == He.ga K "BoxView"
        | _ => false))
    | _, _, _, _ => false)
  | _ => false
def supC (K : PySem.W.Frag) : Bool := (PySem.W.clsIn K (He.ga K "BoxView")).isSome && (decide (PySem.W.mroIn K (He.ga K "BoxView") (.ref (He.ga K "BoxView")) = some true) && (decide (PySem.W.ks_superIn K (He.ga K "BoxView") (He.ga K "BoxView") "__init__" = some (some (.ref (vwF K)))) &&
  (decide (PySem.W.typeIn K (.ref (vwF K)) = some (.type "function")) && (PySem.W.fnIn K (vwF K) && decide (PySem.W.nsIn K cStatics "thirdparty.any" = some none)))))
abbrev SW : Type := Option (Str × Str × Arguments × FuncBody × Scope × Addr × List Str × Addr)
def supW (K : PySem.W.Frag) : SW := match K.lookup (bvF K) with
  | some ⟨_, _, .func fd, _⟩ => some (fd.name, fd.qualname, fd.params, fd.body, fd.scope, fd.globals, fd.closure.map (·.1), fd.builtins)
  | _ => none
def moreB (K : PySem.W.Frag) : Bool := (tupAt K (He.ga K "COMMON") (kCOMMON.map V.str) && (tupAt K (He.ga K "SPECIALS_books") (kSPECS.map V.str) && (tupAt K (He.ga K "SPECIALS_machines") (kSPECS.map V.str) && tupAt K (He.ga K "RIGHTS") (kRIGHTS.map V.str)))) && (formsB K && (keysB K && (supB K && supC K)))
abbrev AlX : Type := He.AlD × (Option (List (Option (Str × Int))) × (Bool × SW))
def obsX (K : PySem.W.Frag) : AlX := (He.obsD fa fn K, (He.dicW K (He.ga K "FORMS"), (moreB K, supW K)))
def valX (w : World) : AlX := (He.valD fn, (some (He.keysIn w.params (kFORMS.map (·.1))), (true, some ("__init__", "BoxView.__init__", defArgs s_BoxView_init, .stmts (defBody s_BoxView_init), defScope s_BoxView_init, mainGlobals, ["__class__"], builtinsNs))))
abbrev hkX : PySem.W.Hook where
  α := AlX
  obs := fun s => obsX (He.frG s.heap.get? (adX s.heap.get?))
  val := valX
  says := fun w h => ∃ K : PySem.W.Frag, K.In h ∧ obsX K = valX w
  of := fun _ _ e => ⟨_, He.frG_in, e⟩
  keeps := fun _ _ _ ⟨K, hK, c⟩ k => ⟨K, PySem.W.Frag.In.keeps hK k, c⟩
def obX (s : PySem.W.SharedT) : AlX := obG (HandSHeadRun.getT s) obsX
theorem obX_eq (s : PySem.W.SharedT) : obX s = hkX.obs s.abs := by
  have e : HandSHeadRun.getT s = s.abs.heap.get? := funext (HandSHeadRun.getT_eq s)
  show obG (HandSHeadRun.getT s) obsX = obsX _
  rw [obG_eq, e]
end W73
set_option Elab.async false
set_option linter.all false
set_option maxRecDepth 100000
set_option maxHeartbeats 0
namespace W73
open PySem PySem.W PySem.Calls PyProof.Rows HandSHeadRun
abbrev RR : PySem.W.OpenRow := PySem.W.OpenLaw.row PySem.Challenge.rw_worldsalone_k73_whole_bare_steps_on_copi
abbrev vw : Program := PySem.W.view RR.prog [79]
def names : List PySem.Str := (["_wall", "HostError", "NameMissing", "BadMeaning", "BadMachine", "BadBook", "UnknownName", "is_stop", "stop_words", "stop_word"] : List PySem.Str) ++ (["doubtful_places", "copied_words", "View", "BoxView", "Draft", "carry_out", "tried", "next_pc", "SPECIALS_machines", "are_words"] : List PySem.Str) ++ (["are_frames", "are_specials", "are_by_ports", "are_outs", "Box", "LETTERS", "SIGNS", "MOST_SIGNS", "COMMON", "SPECIALS_books"] : List PySem.Str) ++ (["TEMPORARIES", "FORMS", "is_name", "is_count", "is_known", "wrong_names", "wrong_primitives", "wrong_causes", "wrong_ref", "wrong_args"] : List PySem.Str) ++ (["names_for", "wrong_member", "wrong_row", "wrong_rows", "wrong_instruction", "wrong_instructions", "lot_of", "wrong_book", "Book", "RIGHTS"] : List PySem.Str) ++ (["is_below", "are_below", "is_table", "are_tables", "is_entry", "is_code", "wrong_part", "Meaning", "_law_source", "_law_pick"] : List PySem.Str) ++ (["_law_of", "_law_menu", "_law_ref", "_law_drawn_row", "_law_drawn_rows", "_law_with_meaning", "_law_house", "_law_eased", "_law_any_house", "_law_box"] : List PySem.Str) ++ (["_law_parts"] : List PySem.Str)
/-- the top's run, looked at by f -/
abbrev ranF {α : Type} (w : World) (f : SharedT → α) (a : α) : Prop := ∀ os : OsState, (endF (stepQ (denQ tabQ) RR.prog w) 9000 RR.prog w os).map f = some a
noncomputable abbrev seenF (w : World) (s : SharedT) := (looksF RR.prog (boot_heap w.params) s.abs, seenQ vw names (importedModules RR.prog.main.body) (fun s => xlAt vw [] s && recOk RR.toRowW.records s) s.abs)
theorem ran_a (w : World) : ranF (w.withFollow "special-get-raises" false) (seenF (w.withFollow "special-get-raises" false)) (true, openGood vw names) := by
  intro os
  kernel_rfl
theorem ran_b (w : World) : ranF (w.withFollow "special-get-raises" true) (seenF (w.withFollow "special-get-raises" true)) (true, openGood vw names) := by
  intro os
  kernel_rfl
theorem ran_c (w : World) : ranF (w.withFollow "special-get-raises" false) obX (valX (w.withFollow "special-get-raises" false)) := by
  intro os
  kernel_rfl
theorem ran_d (w : World) : ranF (w.withFollow "special-get-raises" true) obX (valX (w.withFollow "special-get-raises" true)) := by
  intro os
  kernel_rfl
theorem ran_of {w : World} (h1 : ranF w (seenF w) (true, openGood vw names)) (h2 : ranF w obX (valX w)) : RunEq RR vw hkX obX 9000 names w := fun os => by
  have e1 := h1 os
  have e2 := h2 os
  cases q : endF (stepQ (denQ tabQ) RR.prog w) 9000 RR.prog w os with
  | none =>
    rw [q] at e1
    cases e1
  | some s =>
    rw [q] at e1 e2
    have e1 := Option.some.inj e1
    have e2 := Option.some.inj e2
    show some ((seenF w s).1, (seenF w s).2, obX s) = some (true, openGood vw names, valX w)
    rw [e1, e2]
theorem ran (w : World) : RunEq RR vw hkX obX 9000 names w := PySem.W.byRow2 "special-get-raises" (P := fun w => RunEq RR vw hkX obX 9000 names w) (fun w => ran_of (ran_a w) (ran_c w)) (fun w => ran_of (ran_b w) (ran_d w)) w
end W73
set_option Elab.async false
set_option linter.all false
set_option maxRecDepth 100000
set_option maxHeartbeats 4000000
namespace W73
open PySem PySem.Spec PyProof.Rows L2
theorem ba {a b : Bool} (h : (a && b) = true) : a = true ∧ b = true := Bool.and_eq_true_iff.mp h
section
variable {K : PySem.W.Frag} {h : Heap} {mg : Str → Option Value} {w : World}
theorem sup_of {P : Program} (eP : P.main = prg.main) (hm : mg "super" = none) (e : supB K = true) (e2 : supC K = true) (e3 : supW K = (some ("__init__", "BoxView.__init__", defArgs s_BoxView_init, .stmts (defBody s_BoxView_init), defScope s_BoxView_init, mainGlobals, ["__class__"], builtinsNs) : SW)) :
    ∃ cc cda fd, SupF P K mg (bvF K) cc (C_BoxView K) (vwF K) cda "__init__" "BoxView.__init__" (defArgs s_BoxView_init) (defBody s_BoxView_init) (defScope s_BoxView_init) fd := by
  unfold supB at e
  unfold supW at e3
  cases q : K.lookup (bvF K) with
  | none => rw [q] at e; cases e
  | some o =>
    obtain ⟨oc, od, dt, osl⟩ := o
    rw [q] at e e3
    cases dt with
    | func fd =>
      obtain ⟨n1, n2, n3, n4, n5, n6, n7, n8, n9, n10, n11, n12, n13, n14, n15⟩ := fd
      dsimp only at e e3
      simp only [Option.some.injEq, Prod.mk.injEq] at e3
      obtain ⟨h1, h2, h3, h4, h5, h6, h7, h8⟩ := e3
      subst h1 h2 h3 h4 h5 h6 h8
      split at e
      · rename_i x cc cda
        simp only [List.map_cons, List.map_nil, List.cons.injEq, and_true] at h7
        subst h7
        obtain ⟨c1, c2⟩ := ba e
        obtain ⟨c3, c4⟩ := ba c2
        obtain ⟨d1, d2⟩ := ba e2
        obtain ⟨d2, d3⟩ := ba d2
        obtain ⟨d3, d4⟩ := ba d3
        obtain ⟨d4, d5⟩ := ba d4
        obtain ⟨d5, d6⟩ := ba d5
        refine ⟨cc, cda, _, ⟨⟨oc, od, n10, n11, n14, n12, osl, rfl, q⟩, c1, ?_, ?_, Option.isSome_iff_exists.mp d1, of_decide_eq_true d2, of_decide_eq_true d3, of_decide_eq_true d4, d5, of_decide_eq_true d6, hm, ?_⟩⟩
        · split at c3
          · rename_i q1
            split at c3
            · rename_i q2
              exact ⟨_, _, _, _, _, _, q1, q2, by rw [eP]; exact c3⟩
            · cases c3
          · cases c3
        · split at c4
          · rename_i q1
            have c4 := beq_iff_eq.mp c4
            subst c4
            exact ⟨_, _, _, q1⟩
          · cases c4
        · rw [eP]
          decide +kernel
      · cases e
    | _ => cases e
theorem forms_of (e : formsB K = true) {x : Str} {l : List Str} (hx : (x, l) ∈ kFORMS) : ∃ b, (∀ H, SqT K H b (l.map V.str)) ∧ PySem.W.nsIn K (He.ga K "FORMS") x = some (some (.ref b)) := by
  have e1 := List.all_eq_true.mp e _ hx
  dsimp only at e1
  split at e1
  · rename_i b q
    exact ⟨b, tupAt_ok e1, q⟩
  · cases e1
theorem tz_of {P : Program} (eP : P.main = prg.main) (X : K.In h) (G : h.Ns mainGlobals mg) (c : obsX K = valX w) : Tz P w K mg := by
  have c1 : He.SaysD fa fn K := congrArg (fun z : AlX => z.1) c
  have c2 : He.dicW K (He.ga K "FORMS") = some (He.keysIn w.params (kFORMS.map (·.1))) := congrArg (fun z : AlX => z.2.1) c
  have c3 : moreB K = true := congrArg (fun z : AlX => z.2.2.1) c
  have c4 := congrArg (fun z : AlX => z.2.2.2) c
  have tx : Tx K mg := tx_of X G c1
  obtain ⟨p, p4⟩ := ba c3
  obtain ⟨p1, p⟩ := ba p
  obtain ⟨p2, p⟩ := ba p
  obtain ⟨p3, p0⟩ := ba p
  obtain ⟨p4, p5⟩ := ba p4
  obtain ⟨p5, p6⟩ := ba p5
  obtain ⟨p6, p7⟩ := ba p6
  obtain ⟨es, n, kd⟩ := He.dicW_ok c2
  obtain ⟨cc, cda, fd, sp⟩ := sup_of eP tx.b_super p6 p7 c4
  obtain ⟨fd2, F2⟩ := c1.def_ 5 (d := ⟨("View", some "__init__"), "__init__", "View.__init__", defArgs s_View_init, defBody s_View_init, defScope s_View_init, [], []⟩) rfl
  refine { toTx := tx, t_COMMON := tupAt_ok p1, t_SPECIALS_books := tupAt_ok p2, t_SPECIALS_machines := tupAt_ok p3, t_RIGHTS := tupAt_ok p0, y_FORMS := ?_, d_FORMS := fun x l hx => ?_, s_BoxView := ?_ }
  · unfold keysB at p5
    rw [kd.at_] at p5
    exact ⟨es, n, kd.at_, kd.low, of_decide_eq_true p5, by decide⟩
  · obtain ⟨b, h1, h2⟩ := forms_of p4 hx
    exact ⟨b, h1, es, n, _, kd.at_, kd.lit, h2, rfl⟩
  · exact ⟨bvF K, cc, vwF K, cda, fd, sp, He.mkr_ok (c1.fact 156 (f := .mkr "BoxView") rfl), He.glo_ok X G (c1.fact 157 (f := .glo "BoxView") rfl), fd2, F2⟩
end
end W73
set_option Elab.async false
set_option linter.all false
set_option maxRecDepth 100000
set_option maxHeartbeats 4000000
namespace W73
open PySem PySem.Spec PyProof.Rows L2
open C8 (Cal Met Mak pe_c pe_mk pe_mt pe_mt0 pe_gc pss_cut tCut)
theorem iP {b : Bool} {p q : Prop} (h : b = true) (k : p) : if b = true then p else q := by
  rw [if_pos h]
  exact k
theorem iN {b : Bool} {p q : Prop} (h : b = false) (k : q) : if b = true then p else q := by
  rw [if_neg (by rw [h]; simp)]
  exact k
section
variable {κ : Type} [DecidableEq κ]
theorem putK_new {kvs : List (κ × V)} {k : κ} {v : V} (h : valV kvs k = none) : putK kvs k v = kvs ++ [(k, v)] := by
  unfold putK
  rw [valV_any, h]
  rfl
theorem valV_none {kvs : List (κ × V)} {k : κ} (h : ∀ p ∈ kvs, p.1 ≠ k) : valV kvs k = none := by
  induction kvs with
  | nil => rfl
  | cons p r ih =>
    rw [valV_neg (h p (by simp))]
    exact ih fun q hq => h q (by simp [hq])
theorem valV_mem {kvs : List (κ × V)} {k : κ} {v : V} (h : valV kvs k = some v) : (k, v) ∈ kvs := by
  induction kvs with
  | nil => cases h
  | cons p r ih =>
    by_cases e : p.1 = k
    · rw [valV_pos e] at h
      cases h
      rw [← e]
      simp
    · rw [valV_neg e] at h
      exact List.mem_cons_of_mem _ (ih h)
end
theorem take_notin {α : Type} : ∀ {xs : List α}, xs.Nodup → ∀ {i : Nat} (hi : i < xs.length), xs[i] ∉ xs.take i
  | [], _, _, hi => absurd hi (by simp)
  | x :: xs, _, 0, _ => by simp
  | x :: xs, h, i + 1, hi => by
    have h' := List.nodup_cons.mp h
    simp only [List.getElem_cons_succ, List.take_succ_cons, List.mem_cons, not_or]
    exact ⟨fun e => h'.1 (by rw [← e]; exact List.getElem_mem _), take_notin h'.2 (by simpa using hi)⟩
theorem sizeL : 1000000 ≤ sizeLine := by decide
theorem inV_strs {x : Str} : ∀ {l : List Str}, inV (.str x) (l.map V.str) = decide (x ∈ l)
  | [] => rfl
  | y :: l => by
    have ih : (l.map V.str).any (fun y => eqV y (.str x)) = decide (x ∈ l) := inV_strs
    show ((y == x) || (l.map V.str).any fun y => eqV y (.str x)) = _
    rw [ih, Bool.eq_iff_iff, Bool.or_eq_true, beq_iff_eq, decide_eq_true_eq, decide_eq_true_eq, List.mem_cons]
    exact or_congr ⟨Eq.symm, Eq.symm⟩ Iff.rfl
theorem flat_strs : ∀ {l : List Str}, (l.map V.str).all flatV = true
  | [] => rfl
  | y :: l => by
    rw [List.map_cons, List.all_cons, flat_strs]
    rfl
theorem Same.unlock {H H' : Hp} {d : Addr} {u o : HO} (h : H d = some u) (m : Same (upd H d o) H') : Same H (upd H' d u) := fun b v e => by
  by_cases hb : b = d
  · subst hb
    rw [h] at e
    cases e
    exact upd_same
  · rw [upd_ne hb]
    exact m b v (by rw [upd_ne hb]; exact e)
theorem Same.none {H H' : Hp} (m : Same H H') {b : Addr} (h : H' b = none) : H b = none := by
  cases e : H b with
  | none => rfl
  | some u => rw [m _ _ e] at h; cases h
/-- a comprehension whose items are all True -/
theorem lc_true {J : It} {n : Nat} {G : Hp → Prop} {Y : Nat → Hp → V → Hp → Prop} (w : Walk J n G Y) {g : TG} {te : TE} {vs : List Nat} {σ : L2.St} {H1 : Hp} {D : Addr} {Qd : Hp → Prop} (hz : n ≤ sizeLine) (hD : H1 D = none) (hG : ∀ H, Same H1 H → G H)
    (hs : ∀ i x H H' (R : V → Hp → Prop), i < n → Same H1 H → Y i H x H' → (∀ H4, Same H H4 → R (.bl true) H4) → g x (wipe σ vs) H' fun σ2 H2 => wipe σ2 vs = wipe σ vs ∧ te σ2 H2 R)
    (hd : ∀ H, Same H1 H → H D = some (.lst ((List.replicate n true).map V.bl)) → Qd H) :
    ∃ W : Nat → Nat → Hp → Prop, (∃ m, W 0 m (upd H1 D (.lst []))) ∧ ∀ i m H, W i m H →
      (J.stop i H ∧ Qd H) ∨ (J.go i H ∧ ∃ Nx : Hp → Prop, (∀ H', Nx H' → ∃ m', m' < m ∧ W (i + 1) m' H') ∧ ∀ x H', J.yld i H x H' → g x (wipe σ vs) H' fun σ2 H2 => wipe σ2 vs = wipe σ vs ∧ tYes σ2 H2 fun b H3 =>
        if b = true then te σ2 H3 fun y H4 => ∃ acc, H4 D = some (.lst acc) ∧ acc.length < sizeLine ∧ Nx (upd H4 D (.lst (acc ++ [y]))) else Nx H3) := by
  refine lc_it w (fun i H => Same H1 H ∧ H D = some (.lst ((List.replicate i true).map V.bl))) ⟨Same.new hD, upd_same⟩ (fun i H _ h => hG H h.1) (fun i x H H' hi ⟨h1, h2⟩ y => ?_) fun H h => hd H h.1 h.2
  refine hs i x H H' (fun y H4 => ∃ acc, H4 D = some (.lst acc) ∧ acc.length < sizeLine ∧ (Same H1 (upd H4 D (.lst (acc ++ [y]))) ∧ upd H4 D (.lst (acc ++ [y])) D = some (.lst ((List.replicate (i + 1) true).map V.bl)))) hi h1 y fun H4 h4 => ?_
  refine ⟨_, h4 _ _ h2, by simp; omega, ?_, ?_⟩
  · exact Same.mut (h1.trans h4) hD
  · rw [upd_same]
    simp [List.replicate_succ']
/-- a for over enumerate(..) -/
theorem for_en {J : It} {G : Hp → Prop} {vs : List V} (w : Walk J vs.length G (YPair (fun i => some (.int (i : Nat))) (fun i => vs[i]?))) {g : TG} {tb : TS} {D : Ends} {σ : L2.St} {H : Hp} (Pv : Nat → L2.St → Hp → Prop) (h0 : Pv 0 σ H) (hG : ∀ i σ H, i ≤ vs.length → Pv i σ H → G H)
    (hs : ∀ i x σ H H' t, vs[i]? = some x → Pv i σ H → Same H H' → H' t = some (.tup [.int (i : Nat), x]) → g (.ref t) σ H' fun σ2 H2 => tb { D with nx := Pv (i + 1), ct := Pv (i + 1), bk := D.nx } σ2 H2) (hd : ∀ σ H, Pv vs.length σ H → D.nx σ H) :
    ∃ W : Nat → Nat → L2.St → Hp → Prop, (∃ m, W 0 m σ H) ∧ ∀ i m σ H, W i m σ H →
      (J.stop i H ∧ D.nx σ H) ∨ (J.go i H ∧ ∃ N : L2.St → Hp → Prop, (∀ σ' H', N σ' H' → ∃ m', m' < m ∧ W (i + 1) m' σ' H') ∧ ∀ x H', J.yld i H x H' → g x σ H' fun σ2 H2 => tb { D with nx := N, ct := N, bk := D.nx } σ2 H2) := by
  refine for_it w Pv h0 hG (fun i x σ H H3 hi p y => ?_) hd
  obtain ⟨t, n, y, rfl, ht, rfl, hn, hy⟩ := y
  cases hn
  exact hs i y σ H _ t hy p (Same.new ht) upd_same
end W73
set_option Elab.async false
set_option linter.all false
set_option maxRecDepth 100000
set_option maxHeartbeats 4000000
namespace W73
open PySem PySem.Spec PyProof.Rows L2
/-! ### y = {k: v for ..} -/
section
variable {X : Cx}
theorem ps_setDq {i : Nat} (o0 : Bool) {y : Str} {py : Pos} {kx vx tg iter : Expr} {ifs : List Expr} {scope : Scope} {own : List (Str × Nat)} {pos spos : Pos} {wi : TI} {g : TG} {tt : TT} {tk tv : TE} (hu : X.A.units + 1 < cLine) (hc : X.calm = true) (hN : X.N.Nodup) (hy : X.N[i]? = some y) (hyl : X.env.scope.names.lookup y = some .local)
    (hsw : swapsWith (.DictComp kx vx [⟨tg, iter, ifs, 0⟩] scope pos) (some (.Name y py)) spos.line X.env = pure true) (hi : PI X tg iter wi) (ok : BlkOk X.N X.env.scope scope own)
    (hg : ∀ (s : Shared) (H : Hp) (C : Addr) (cl : List (Str × Addr)) (fp : List Addr), PG (X.blk s H scope (compEnvC scope cl C X.env) fp) tg g) (ht : ∀ (s : Shared) (H : Hp) (C : Addr) (cl : List (Str × Addr)) (fp : List Addr), PTs (X.blk s H scope (compEnvC scope cl C X.env) fp) ifs tt)
    (hk : ∀ (s : Shared) (H : Hp) (C : Addr) (cl : List (Str × Addr)) (fp : List Addr), PE (X.blk s H scope (compEnvC scope cl C X.env) fp) kx tk)
    (he : ∀ (s : Shared) (H : Hp) (C : Addr) (cl : List (Str × Addr)) (fp : List Addr), PE (X.blk s H scope (compEnvC scope cl C X.env) fp) vx tv) (hs : ∀ x, foldedSetIterable iter X.env x = pure x := by intro _; rfl) :
    PS X (.Assign [.Name y py] (.DictComp kx vx [⟨tg, iter, ifs, 0⟩] scope pos) spos) (tAsg (tDq o0 wi g tt tk tv (own.map (·.2))) (gName i)) := by
  refine ⟨fun pins s σ H D I h => ?_⟩
  rw [exec_Assign_Name_used _ _ _ _ hsw]
  refine wpAny_bind (wpAny_standAt (wpAny_bind ?_))
  show wpAny _ X.A (do let _ ← comprehension (.DictComp kx vx [⟨tg, iter, ifs, 0⟩] scope pos) scope X.env (firstIterPos [⟨tg, iter, ifs, 0⟩] pos) newDict false (eval iter X.env) (some (assign (.Name y py) X.env))) _ _ s
  have h : tDq o0 wi g tt tk tv (own.map (·.2)) σ H (fun x H1 => gName i x σ H1 D.nx) := h
  refine wpAny_bind (thn (dq_core (Qf := fun _ s' => SP X pins D .next s') hu hc hN I hi ok hg ht hk he hs h fun L C s' m H' I' q hn f => ?_) fun _ s' hq => wpAny_pure (wpAny_pure hq))
  show wpAny _ _ (assign (.Name y py) X.env (.ref L)) _ _ _
  refine wpAny_assign_Name (store_ok2 (v := V.ref L) I' hN hy (.inl hyl) rfl (fun s2 I2 ⟨a, sb, ha⟩ => ?_) (.inr hyl))
  obtain ⟨f0, f1, f2, f3, f4, f5⟩ := f
  have haC : C ≠ a := by
    rcases ha with z | z
    · rw [z]; exact f1
    · exact fun e => f4 y a z e.symm
  exact ⟨m, hn.sameBut sb haC, fun h3 sb3 => ⟨_, H', I2.turned (t' := s2.toks) (fun b o hb e => (sb3.2 b hb).trans e) f0 f1 f3 f4 f5, q⟩⟩
theorem swD_true {kx vx : Expr} {gs : List Comprehension} {scope : Scope} {pos py : Pos} {y : Str} {l : Nat} {env : Env} (hk : env.scope.kind = .function) (hy : env.scope.names.lookup y = some .local) (hl : (py.line == pos.line) = true)
    (ha : (scope.names.any fun (n, k) => n == y && (k == .local || k == .cell)) = false) : swapsWith (.DictComp kx vx gs scope pos) (some (.Name y py)) l env = pure true := by
  have ky : env.kindOf y = some .local := hy
  have hb : env.blockKind = .function := by
    unfold Env.blockKind
    rw [hk]
    rfl
  unfold swapsWith
  simp only [hb, ky, ha, Expr.pos, hl]
  rfl
end
end W73
set_option Elab.async false
set_option linter.all false
set_option maxRecDepth 100000
set_option maxHeartbeats 4000000
namespace W73
open PySem PySem.Spec PyProof.Rows L2
/-! ### rules whose readings don't speak of the written part (for comprehensions) -/
section
variable {X : Cx}
def rIxTH : R2 := fun x y H Q => ∃ p xs i v, x = .ref p ∧ y = .int i ∧ H p = some (.tup xs) ∧ atI xs i = some v ∧ Q v H
theorem ix_tupH : IxR X rIxTH := by
  intro value slice pins s σ H x y v u Q I rx ry h hs
  obtain ⟨p, xs, i, z, e1, e2, e3, e4, q⟩ := h
  exact ix_tup value slice pins s σ H x y v u Q I rx ry ⟨p, xs, i, z, e1, e2, .inl (.inl e3), e4, q⟩ hs
def rIxLH : R2 := fun x y H Q => ∃ p xs i v, x = .ref p ∧ y = .int i ∧ H p = some (.lst xs) ∧ atI xs i = some v ∧ Q v H
theorem ix_listH : IxR X rIxLH := by
  intro value slice pins s σ H x y v u Q I rx ry h hs
  obtain ⟨p, xs, i, z, e1, e2, e3, e4, q⟩ := h
  exact ix_list value slice pins s σ H x y v u Q I rx ry ⟨p, xs, i, z, e1, e2, .inl (.inl e3), e4, q⟩ hs
def rListH : List V → Hp → VK → Prop := fun xs H Q => ∃ p ys, xs = [.ref p] ∧ (H p = some (.lst ys) ∨ H p = some (.tup ys)) ∧ ∀ l, H l = none → Q (.ref l) (upd H l (.lst ys))
theorem call_listH : CallR X (.type "list") rListH := by
  intro pins s σ H xs us Q I r h
  obtain ⟨p, ys, e, hp, q⟩ := h
  refine call_list_of pins s σ H xs us Q I r ⟨p, ys, e, ?_, q⟩
  rcases hp with hp | hp
  · exact .inl (.inl (.inl hp))
  · exact .inr (.inl (.inl hp))
def gTupH (n : Nat) (t : TGs) : TG := fun v σ H Q => ∃ a xs, v = .ref a ∧ H a = some (.tup xs) ∧ xs.length = n ∧ t xs σ H Q
theorem pg_tupH {es : List Expr} {k : Nat} {t : TGs} {n : Nat} {pos : Pos} (hc : X.calm = true) (h : PGs X es t)
    (hn : (assignEach es X.env).length = n := by rfl) (hst : (assignEach es X.env).findIdx? (·.1) = none := by rfl) : PG X (.Tuple es k pos) (gTupH n t) := by
  refine ⟨fun pins s σ H v u Q I r hw => ?_⟩
  obtain ⟨a, xs, e1, hq, hl, hw⟩ := hw
  exact (pg_tup hc h hn hst).run pins s σ H v u Q I r ⟨a, xs, e1, .inl (.inl hq), hl, hw⟩
end
end W73
set_option Elab.async false
set_option linter.all false
set_option maxRecDepth 100000
set_option maxHeartbeats 4000000
namespace W73
open PySem PySem.Spec PyProof.Rows L2
/-! ### xs == [], xs != [] -/
def rEqLE (K : PySem.W.Frag) : R2 := fun x y H Q => ∃ a b xs, x = .ref a ∧ y = .ref b ∧ SqL K H a xs ∧ SqL K H b [] ∧ Q (.bl xs.isEmpty) H
def rNeLE (K : PySem.W.Frag) : R2 := fun x y H Q => ∃ a b xs, x = .ref a ∧ y = .ref b ∧ SqL K H a xs ∧ SqL K H b [] ∧ Q (.bl (!xs.isEmpty)) H
theorem op_eqLE {X : Cx} (hu : X.A.units < cLine) : OpR X (compareOp .Eq) (rEqLE X.K) := by
  intro pins s σ H x y v u Q I rx ry h
  obtain ⟨a, b, xs, rfl, rfl, ha, hb, q⟩ := h
  obtain rfl : v = Value.ref a := rx
  obtain rfl : u = Value.ref b := ry
  obtain ⟨its, r1, p1, _⟩ := I.list ha
  obtain ⟨its2, r2, p2, _⟩ := I.list hb
  cases r2
  cases xs with
  | nil =>
    cases r1
    have z := SeqAt.RcAt.lists (A := X.A) (e := fun _ => true) (show s.heap.IsList a ([] : List Value).toArray from p1.isList) (show s.heap.IsList b ([] : List Value).toArray from p2.isList) rfl hu (fun j h1 h2 => absurd h2 (by simp))
    exact z X.prog X.w _ _ ⟨.bl true, H, I, rfl, q⟩
  | cons x xs =>
    have l := r1.length
    have z := SeqAt.RcAt.lists_lengths (A := X.A) (show s.heap.IsList a its.toArray from p1.isList) (show s.heap.IsList b ([] : List Value).toArray from p2.isList) (by rw [List.size_toArray, ← l]; simp) hu
    exact z X.prog X.w _ _ ⟨.bl false, H, I, rfl, q⟩
theorem op_neLE {X : Cx} (hu : X.A.units < cLine) : OpR X (compareOp .NotEq) (rNeLE X.K) := by
  intro pins s σ H x y v u Q I rx ry h
  obtain ⟨a, b, xs, rfl, rfl, ha, hb, q⟩ := h
  obtain rfl : v = Value.ref a := rx
  obtain rfl : u = Value.ref b := ry
  obtain ⟨its, r1, p1, _⟩ := I.list ha
  obtain ⟨its2, r2, p2, _⟩ := I.list hb
  cases r2
  cases xs with
  | nil =>
    cases r1
    have z := SeqAt.RcNeAt.lists (A := X.A) (e := fun _ => true) (show s.heap.IsList a ([] : List Value).toArray from p1.isList) (show s.heap.IsList b ([] : List Value).toArray from p2.isList) rfl hu (fun j h1 h2 => absurd h2 (by simp))
    exact z X.prog X.w _ _ ⟨.bl false, H, I, rfl, q⟩
  | cons x xs =>
    have l := r1.length
    have z := SeqAt.RcNeAt.lists_lengths (A := X.A) (show s.heap.IsList a its.toArray from p1.isList) (show s.heap.IsList b ([] : List Value).toArray from p2.isList) (by rw [List.size_toArray, ← l]; simp) hu
    exact z X.prog X.w _ _ ⟨.bl true, H, I, rfl, q⟩
end W73
set_option Elab.async false
set_option linter.all false
set_option maxRecDepth 100000
set_option maxHeartbeats 4000000
namespace W73
open PySem PySem.Spec PyProof.Rows L2
open C8 (Cal Met Mak pe_c pe_mk pe_mt pe_mt0 pe_gc pss_cut tCut)
section
variable {P : Program} {w : World} {K : PySem.W.Frag} {mg : Str → Option Value} {base : Heap}
def sp_is_count : Sp := sp2 fun a b H Q => ∃ i m : Int, a = .int i ∧ b = .int m ∧ Q (.bl (decide (m ≤ i))) H
theorem ok_is_count (T : Tz P w K mg) : Cal P w K mg base 1 "is_count" sp_is_count [] := by
  refine mk_is_count T.toTx len2 fun f cdv A outer s H vs Q E hr h => ?_
  obtain ⟨_, _, rfl, i, m, rfl, rfl, k⟩ := h
  refine ⟨_, pss_one (ps_ret (pe_and (pe_is T.b_isinstance T.b_int boot_int (pv 0)) (pe_and (pe_not (pe_is T.b_isinstance T.b_bool boot_bool (pv 0))) (pe_one (pe_cmpR op_ge (pv 0) (pv 1) (nomark _)))))), ?_⟩
  exact ⟨_, rfl, _, _, _, _, rfl, .base (.int i), ki_ii, _, rfl, iteT ⟨_, rfl, _, _, _, _, rfl, .base (.int i), ki_ib, _, rfl, _, rfl, iteT ⟨_, rfl, _, rfl, _, _, rfl, rfl, k⟩⟩⟩
/-- thing in names -/
def KnIn (K : PySem.W.Frag) : R2 := fun a b H Q => rIn K false a b H Q ∨ rInD a b H Q
def sp_is_known (K : PySem.W.Frag) : Sp := sp2 fun a b H Q => ∃ x, a = .str x ∧ KnIn K a b H Q
theorem ok_is_known (T : Tz P w K mg) : Cal P w K mg base 1 "is_known" (sp_is_known K) [] := by
  refine mk_is_known T.toTx len2 fun f cdv A outer s H vs Q E hr h => ?_
  obtain ⟨_, _, rfl, x, rfl, k⟩ := h
  have hu := hu_of hr
  refine ⟨_, (pss_one (ps_ret (pe_and (pe_is T.b_isinstance T.b_str boot_str (pv 0)) (pe_one (pe_cmpR (op_inAny hu) (pv 0) (pv 1) rfl))))), ?_⟩
  exact ⟨_, rfl, _, _, _, _, rfl, .base (.str x), ki_ss, _, rfl, iteT ⟨_, rfl, _, rfl, k⟩⟩
def sp_is_name : Sp := sp1 fun a H Q => ∃ x, a = .str x ∧ nameOk x = true ∧ ∀ H', Same H H' → Q (.bl true) H'
theorem ok_is_name (T : Tz P w K mg) : Cal P w K mg base 1 "is_name" sp_is_name [] := by
  refine mk_is_name T.toTx len1 fun f cdv A outer s H vs Q E hr h => ?_
  obtain ⟨_, rfl, x, rfl, hx, k⟩ := h
  have hu := hu_of hr
  unfold nameOk at hx
  simp only [Bool.and_eq_true, decide_eq_true_eq, List.all_eq_true] at hx
  obtain ⟨⟨⟨h1, h2⟩, h3⟩, h4⟩ := hx
  refine ⟨_, (pss_cons (ps_if (PW.pt (pw_or (pt_not (pt_val (pe_is T.b_isinstance T.b_str boot_str (pv 0)))) (pw_or (pt_not (pt_chain op_le op_le pe_int (pe_callB call_len_str (by rfl) T.b_len PySem.boot_len (pa_cons (pv 0) pa_nil)) (pe_gc rfl T.k_MOST_SIGNS))) (pw_or1 (pt_cmpR op_notIn_sign (pe_ix ix_str (pv 0) pe_int (fun _ _ => rfl)) (pe_gc rfl T.k_LETTERS) rfl))))) pss_never pss_nil)
    (pss_one (ps_ret (pe_callB (cr_all rfl) (by rfl) T.b_all boot_all (pa_cons (pe_lc (own := [("sign", 1)]) (g := gName 1) (tt := tYes) rfl sc_is_name.nd (pi_str (pv 0)) (blkOk_by (N := ["thing", "sign"]) (sc := defScope s_is_name) (by decide +kernel)) (fun _ _ _ _ _ => (pg_name (i := 1) sc_is_name.nd rfl (Or.inl rfl))) (fun _ _ _ _ _ => pts_nil) (fun _ _ _ _ _ => (pe_cmpR op_in_sign (pv 1) (pe_gc rfl T.k_SIGNS) rfl))) pa_nil))))), ?_⟩
  refine ⟨_, rfl, _, _, _, _, rfl, .base (.str x), ki_ss, _, rfl, iteF ?_⟩
  have hz := sizeL
  obtain ⟨c, hc, hl⟩ := Option.any_eq_true _ _ |>.mp h3
  refine ⟨_, rfl, _, rfl, by omega, _, _, rfl, rfl, _, rfl, iP (by simp; omega) ?_⟩
  refine ⟨_, _, rfl, rfl, _, rfl, iN (by simp; omega) ?_⟩
  refine ⟨_, rfl, _, _, c, rfl, rfl, by omega, ?_, c, _, rfl, rfl, ?_⟩
  · exact atI_nat (j := 0) (by rw [← hc, List.head?_eq_getElem?])
  refine ⟨_, rfl, iN (by simpa using hl) ?_⟩
  refine ⟨_, rfl, x, rfl, fun D hD => ?_⟩
  refine lc_true walk_str (by have : x.length = x.cps.size := rfl; omega) hD (fun _ _ => trivial) (fun i y H1 H2 R hi m y' hR => ?_) fun H1 m hl => ?_
  · obtain ⟨rfl, c, hc, rfl⟩ := y'
    refine ⟨rfl, _, rfl, c, _, rfl, rfl, ?_⟩
    rw [decide_eq_true (h4 c ?_)]
    · exact hR _ (Same.refl _)
    · rw [Array.mem_toList_iff]
      exact Array.mem_of_getElem? hc
  · exact ⟨_, _, rfl, .inl (.inl hl), by simpa using k H1 m⟩
end
end W73
set_option Elab.async false
set_option linter.all false
set_option maxRecDepth 100000
set_option maxHeartbeats 4000000
namespace W73
open PySem PySem.Spec PyProof.Rows L2
open C8 (Cal Met Mak pe_c pe_mk pe_mt pe_mt0 pe_gc pss_cut tCut)
section
variable {P : Program} {w : World} {K : PySem.W.Frag} {mg : Str → Option Value} {base : Heap}
def sp_wrong_names : Sp := sp2 fun a b H Q => ∃ (p : Addr) (xs : List Str), a = .ref p ∧ H p = some (.lst (xs.map V.str)) ∧ (∀ x ∈ xs, nameOk x = true) ∧ xs.Nodup ∧ xs.length ≤ 1000 ∧ ∀ H', Same H H' → Q .non H'
theorem ok_wrong_names (T : Tz P w K mg) : Cal P w K mg base 2 "wrong_names" sp_wrong_names [] := by
  have c_is_name : Cal P w K mg base 1 "is_name" sp_is_name [] := ok_is_name T
  refine mk_wrong_names T.toTx len2 fun f cdv A outer s H vs Q E hr h => ?_
  obtain ⟨_, b, rfl, p, xs, rfl, hp, h1, h2, h3, k⟩ := h
  have hu := hu_of hr
  have hz := sizeL
  refine ⟨_, (pss_cons (ps_if (pt_not (pt_val (pe_isLT T.b_isinstance T.b_list T.b_tuple (pv 0)))) pss_never pss_nil)
    (pss_cons (ps_set (i := 2) sc_wrong_names.nd rfl (Or.inl rfl) pe_dnewK)
    (pss_cons (ps_for PassesOwn.never rfl (pi_enum (by rfl) T.b_enumerate (pa_cons (pv 0) pa_nil)) (pg_tup rfl (pgs_cons (pg_name (i := 3) sc_wrong_names.nd rfl (Or.inl rfl)) (pgs_cons (pg_name (i := 4) sc_wrong_names.nd rfl (Or.inl rfl)) pgs_nil))) (pss_cons (ps_if (PW.pt (pw_or (pt_not (pt_val (pe_c c_is_name hr (by first | decide | omega) rfl (pa_cons (pv 4) pa_nil)))) (pw_or1 (pt_cmp (pc_din hu (pv 4) (pv 2)))))) pss_never pss_nil)
    (pss_one (ps_dput hu (pv 2) (pv 4) pe_bl rfl))))
    (pss_one (ps_ret pe_non))))), ?_⟩
  refine ⟨_, rfl, by show 2 ≤ sizeLine; decide, fun tp ht => ⟨_, tp, rfl, upd_same, ⟨p, _, rfl, .inl (Same.new ht _ _ hp)⟩, _, rfl, iteF ?_⟩⟩
  have m1 : Same H (upd H tp (.tup [.ty "list", .ty "tuple"])) := Same.new ht
  generalize upd H tp (.tup [.ty "list", .ty "tuple"]) = H1 at m1 ⊢
  intro d hd
  refine ⟨_, rfl, p, xs.map V.str, rfl, .inl (.inl (Same.new hd _ _ (m1 _ _ hp))), for_it (walk_enum (xs := xs.map V.str)) (fun i σ H2 => ∃ u v, σ = [some (.ref p), some b, some (.ref d), u, v] ∧ Same H1 H2 ∧ H2 d = some (.dK ((xs.take i).map fun x => (Sum.inr x, V.bl true)))) ⟨_, _, rfl, Same.new hd, upd_same⟩ ?_ ?_ ?_⟩
  · rintro i σ H2 _ ⟨_, _, _, m, _⟩
    exact .inl (.inl (m _ _ (m1 _ _ hp)))
  · rintro i x σ H2 H3 hi ⟨u, v, rfl, m, e⟩ ⟨t, n, y, rfl, ht, rfl, hn, hy⟩
    cases hn
    have hlt : i < xs.length := by simpa using hi
    have hy : y = .str xs[i] := by
      have hy : (xs.map V.str)[i]? = some y := hy
      rw [List.getElem?_map, List.getElem?_eq_getElem hlt] at hy
      cases hy
      rfl
    subst hy
    have hmem : xs[i] ∈ xs := List.getElem_mem hlt
    refine ⟨t, _, rfl, .inl (.inl upd_same), rfl, _, _, rfl, _, _, rfl, rfl, ?_⟩
    have m2 : Same H2 (upd H2 t (.tup [.int (i : Nat), .str xs[i]])) := Same.new ht
    generalize upd H2 t (.tup [.int (i : Nat), .str xs[i]]) = H3 at m2 ⊢
    refine ⟨_, rfl, _, rfl, xs[i], rfl, h1 _ hmem, fun H4 m4 => ⟨_, rfl, iteF ?_⟩⟩
    have e4 := m4 _ _ (m2 _ _ e)
    have hv : valV ((xs.take i).map fun x => ((Sum.inr x : Key), V.bl true)) (Sum.inr xs[i]) = none := valV_none fun p hp => by
      obtain ⟨x, hx, rfl⟩ := List.mem_map.mp hp
      intro z
      cases z
      exact take_notin h2 hlt hx
    refine ⟨_, rfl, _, rfl, d, _, rfl, DGet.k (k := Sum.inr xs[i]) e4, _, rfl, iN (by rw [hv]; rfl) ?_⟩
    refine ⟨_, rfl, _, rfl, d, _, rfl, DPut.k (k := Sum.inr xs[i]) e4 (by simp; omega), _, _, rfl, Same.mut ((m.trans m2).trans m4) hd, ?_⟩
    rw [upd_same, putK_new hv, List.take_add_one, List.getElem?_eq_getElem hlt, Option.toList, List.map_append]
    rfl
  · rintro σ H2 ⟨u, v, rfl, m, e⟩
    exact k _ (m1.trans m)
end
end W73
set_option Elab.async false
set_option linter.all false
set_option maxRecDepth 100000
set_option maxHeartbeats 4000000
namespace W73
open PySem PySem.Spec PyProof.Rows L2
open C8 (Cal Met Mak pe_c pe_mk pe_mt pe_mt0 pe_gc pss_cut tCut)
section
variable {P : Program} {w : World} {K : PySem.W.Frag} {mg : Str → Option Value} {base : Heap}
def pD (p : Str × Nat) : D := .t [.s p.1, .i p.2]
def sp_wrong_primitives : Sp := sp1 fun a H Q => ∃ (p : Addr) (ps : List (Str × Nat)), a = .ref p ∧ LD H p (ps.map pD) ∧ (∀ x ∈ ps, nameOk x.1 = true ∧ x.2 ≤ 2) ∧ (ps.map (·.1)).Nodup ∧ ps.length ≤ 1000 ∧ ∀ H', Same H H' → Q .non H'
theorem ok_wrong_primitives (T : Tz P w K mg) : Cal P w K mg base 2 "wrong_primitives" sp_wrong_primitives [] := by
  have c_is_name : Cal P w K mg base 1 "is_name" sp_is_name [] := ok_is_name T
  have c_is_count : Cal P w K mg base 1 "is_count" sp_is_count [] := ok_is_count T
  refine mk_wrong_primitives T.toTx len1 fun f cdv A outer s H vs Q E hr h => ?_
  obtain ⟨_, rfl, p, ps, rfl, ⟨us, hp, td⟩, h1, h2, h3, k⟩ := h
  have hu := hu_of hr
  have hz := sizeL
  refine ⟨_, (pss_cons (ps_if (pt_not (pt_val (pe_isLT T.b_isinstance T.b_list T.b_tuple (pv 0)))) pss_never pss_nil)
    (pss_cons (ps_set (i := 1) sc_wrong_primitives.nd rfl (Or.inl rfl) pe_dnewK)
    (pss_cons (ps_for PassesOwn.never rfl (pi_enum (by rfl) T.b_enumerate (pa_cons (pv 0) pa_nil)) (pg_tup rfl (pgs_cons (pg_name (i := 2) sc_wrong_primitives.nd rfl (Or.inl rfl)) (pgs_cons (pg_name (i := 3) sc_wrong_primitives.nd rfl (Or.inl rfl)) pgs_nil))) (pss_cons (ps_if (PW.pt (pw_or (pt_not (pt_val (pe_is T.b_isinstance T.b_tuple boot_tuple (pv 3)))) (pw_or1 (pt_cmpR op_ne (pe_callB call_len_seq (by rfl) T.b_len PySem.boot_len (pa_cons (pv 3) pa_nil)) pe_int (nomark _))))) pss_never pss_nil)
    (pss_cons (ps_if (PW.pt (pw_or (pt_not (pt_val (pe_c c_is_name hr (by first | decide | omega) rfl (pa_cons (pe_ix ix_tup (pv 3) pe_int (fun _ _ => rfl)) pa_nil)))) (pw_or1 (pt_cmp (pc_din hu (pe_ix ix_tup (pv 3) pe_int (fun _ _ => rfl)) (pv 1)))))) pss_never pss_nil)
    (pss_cons (ps_if (PW.pt (pw_or (pt_not (pt_val (pe_c c_is_count hr (by first | decide | omega) rfl (pa_cons (pe_ix ix_tup (pv 3) pe_int (fun _ _ => rfl)) (pa_cons pe_int pa_nil))))) (pw_or1 (pt_cmpR op_gt (pe_ix ix_tup (pv 3) pe_int (fun _ _ => rfl)) pe_int (nomark _))))) pss_never pss_nil)
    (pss_one (ps_dput hu (pv 1) (pe_ix ix_tup (pv 3) pe_int (fun _ _ => rfl)) pe_bl rfl))))))
    (pss_one (ps_ret pe_non))))), ?_⟩
  refine ⟨_, rfl, by show 2 ≤ sizeLine; decide, fun tp ht => ⟨_, tp, rfl, upd_same, ⟨p, _, rfl, .inl (Same.new ht _ _ hp)⟩, _, rfl, iteF ?_⟩⟩
  have m1 : Same H (upd H tp (.tup [.ty "list", .ty "tuple"])) := Same.new ht
  generalize upd H tp (.tup [.ty "list", .ty "tuple"]) = H1 at m1 ⊢
  intro d hd
  have hl := td.length
  rw [List.length_map] at hl
  refine ⟨_, rfl, p, us, rfl, .inl (.inl (Same.new hd _ _ (m1 _ _ hp))), for_en (vs := us) walk_enum (fun i σ H2 => ∃ u v, σ = [some (.ref p), some (.ref d), u, v] ∧ Same H1 H2 ∧ H2 d = some (.dK (((ps.map (·.1)).take i).map fun x => (Sum.inr x, V.bl true)))) ⟨_, _, rfl, Same.new hd, upd_same⟩ ?_ ?_ ?_⟩
  · rintro i σ H2 _ ⟨_, _, _, m, _⟩
    exact .inl (.inl (m _ _ (m1 _ _ hp)))
  · rintro i x σ H2 H3 t hx ⟨u, v, rfl, m, e⟩ m2 ht
    obtain ⟨dd, hdd, td1⟩ := TDs.get' (td.mono (.of ((m1.trans m).trans m2))) hx
    have hlt : i < ps.length := by rw [hl]; exact (List.getElem?_eq_some_iff.mp hx).1
    have hdd : (ps.map pD)[i]? = some dd := hdd
    rw [List.getElem?_map, List.getElem?_eq_getElem hlt] at hdd
    have hmem : ps[i] ∈ ps := List.getElem_mem hlt
    have hk : (ps.map (·.1))[i]'(by simpa using hlt) = ps[i].1 := by simp
    generalize ps[i] = q at hdd hmem hk
    cases hdd
    obtain ⟨a2, vs2, rfl, ha2, t2⟩ := td1.tup
    cases t2 with
    | cons c1 c2 =>
    cases c2 with
    | cons c2 c3 =>
    cases c3
    cases c1
    cases c2
    refine ⟨t, _, rfl, .inl (.inl ht), rfl, _, _, rfl, _, _, rfl, rfl, ?_⟩
    refine ⟨_, rfl, _, _, _, _, rfl, .base (.tup ha2), ki_tt, _, rfl, iteF ?_⟩
    refine ⟨_, rfl, _, _, rfl, .inr (.inl (.inl ha2)), rfl, _, rfl, iteF ?_⟩
    refine ⟨_, rfl, _, _, _, _, rfl, rfl, .inl (.inl ha2), rfl, _, rfl, q.1, rfl, (h1 _ hmem).1, fun H4 m4 => ⟨_, rfl, iteF ?_⟩⟩
    have e4 := m4 _ _ (m2 _ _ e)
    have ha4 := m4 _ _ ha2
    have hv : valV (((ps.map (·.1)).take i).map fun x => ((Sum.inr x : Key), V.bl true)) (Sum.inr q.1) = none := valV_none fun p hp => by
      obtain ⟨x, hx, rfl⟩ := List.mem_map.mp hp
      intro z
      cases z
      have := take_notin h2 (i := i) (by simpa using hlt)
      rw [hk] at this
      exact this hx
    refine ⟨_, rfl, _, _, _, _, rfl, rfl, .inl (.inl ha4), rfl, _, rfl, d, _, rfl, DGet.k (k := Sum.inr q.1) e4, _, rfl, iN (by rw [hv]; rfl) ?_⟩
    refine ⟨_, rfl, _, _, _, _, rfl, rfl, .inl (.inl ha4), rfl, _, _, rfl, _, _, rfl, rfl, _, rfl, iN (by simp) ?_⟩
    refine ⟨_, rfl, _, _, _, _, rfl, rfl, .inl (.inl ha4), rfl, _, _, rfl, rfl, _, rfl, iN (by have := (h1 _ hmem).2; simp; omega) ?_⟩
    refine ⟨_, rfl, _, rfl, _, _, _, _, rfl, rfl, .inl (.inl ha4), rfl, d, _, rfl, DPut.k (k := Sum.inr q.1) e4 (by simp; omega), _, _, rfl, Same.mut ((m.trans m2).trans m4) hd, ?_⟩
    rw [upd_same, putK_new hv, List.take_add_one, List.getElem?_eq_getElem (by simpa using hlt), hk, Option.toList, List.map_append]
    rfl
  · rintro σ H2 ⟨u, v, rfl, m, e⟩
    exact k _ (m1.trans m)
end
end W73
set_option Elab.async false
set_option linter.all false
set_option maxRecDepth 100000
set_option maxHeartbeats 4000000
namespace W73
open PySem PySem.Spec PyProof.Rows L2
open C8 (Cal Met Mak pe_c pe_mk pe_mt pe_mt0 pe_gc pss_cut tCut)
section
variable {P : Program} {w : World} {K : PySem.W.Frag} {mg : Str → Option Value} {base : Heap}
def sp_wrong_causes : Sp := sp1 fun a H Q => ∃ (p : Addr) (xs : List Str), a = .ref p ∧ H p = some (.lst (xs.map V.str)) ∧ (∀ x ∈ xs, nameOk x = true ∧ x ∉ kCOMMON) ∧ xs.Nodup ∧ xs.length ≤ 1000 ∧ ∀ H', Same H H' → Q .non H'
theorem ok_wrong_causes (T : Tz P w K mg) : Cal P w K mg base 3 "wrong_causes" sp_wrong_causes [] := by
  have c_wrong_names : Cal P w K mg base 2 "wrong_names" sp_wrong_names [] := ok_wrong_names T
  have c_is_known : Cal P w K mg base 1 "is_known" (sp_is_known K) [] := ok_is_known T
  refine mk_wrong_causes T.toTx len1 fun f cdv A outer s H vs Q E hr h => ?_
  obtain ⟨_, rfl, p, xs, rfl, hp, h1, h2, h3, k⟩ := h
  have hu := hu_of hr
  have hz := sizeL
  refine ⟨_, (pss_cons (ps_set (i := 1) sc_wrong_causes.nd rfl (Or.inl rfl) (pe_c c_wrong_names hr (by first | decide | omega) rfl (pa_cons (pv 0) (pa_cons (pe_tup (pa_cons pe_int pa_nil)) pa_nil))))
    (pss_cons (ps_if (pt_cmpR (op_eqD hr.units) (pv 1) (pe_tup (pa_cons pe_int pa_nil)) (nomark _)) pss_never pss_nil)
    (pss_cons (ps_for PassesOwn.never rfl (pi_enum (by rfl) T.b_enumerate (pa_cons (pv 0) pa_nil)) (pg_tup rfl (pgs_cons (pg_name (i := 2) sc_wrong_causes.nd rfl (Or.inl rfl)) (pgs_cons (pg_name (i := 3) sc_wrong_causes.nd rfl (Or.inl rfl)) pgs_nil))) (pss_one (ps_if (PW.pt (pw_or (pt_cmpR (op_eqD hr.units) (pv 1) (pe_tup (pa_cons pe_int (pa_cons (pv 2) pa_nil))) (nomark _)) (pw_or1 (pt_val (pe_c c_is_known hr (by first | decide | omega) rfl (pa_cons (pv 3) (pa_cons (pe_gc rfl T.k_COMMON) pa_nil))))))) pss_never pss_nil)))
    (pss_one (ps_ret pe_non))))), ?_⟩
  refine ⟨_, rfl, by show 1 ≤ sizeLine; decide, fun t ht => ⟨_, _, rfl, p, xs, rfl, Same.new ht _ _ hp, fun x hx => (h1 x hx).1, h2, h3, fun H2 m2 => ?_⟩⟩
  have m1 : Same H H2 := (Same.new ht).trans m2
  refine ⟨_, rfl, by show 1 ≤ sizeLine; decide, fun t2 ht2 => ⟨.none, .tuple [.int 2], .non, .tup (.inl (.inl upd_same)) (.cons (.int 2) .nil), rfl, rfl, _, rfl, iteF ?_⟩⟩
  have m3 : Same H (upd H2 t2 (.tup [.int 2])) := m1.trans (Same.new ht2)
  generalize upd H2 t2 (.tup [.int 2]) = H3 at m3 ⊢
  refine ⟨_, rfl, p, xs.map V.str, rfl, .inl (.inl (m3 _ _ hp)), for_en (vs := xs.map V.str) walk_enum (fun i σ H4 => ∃ u v, σ = [some (.ref p), some .non, u, v] ∧ Same H H4) ⟨_, _, rfl, m3⟩ ?_ ?_ ?_⟩
  · rintro i σ H4 _ ⟨_, _, _, m⟩
    exact .inl (.inl (m _ _ hp))
  · rintro i x σ H4 H5 t hx ⟨u, v, rfl, m⟩ m2 ht
    rw [List.getElem?_map] at hx
    obtain ⟨y, hy, rfl⟩ := Option.map_eq_some_iff.mp hx
    have hmem := List.mem_of_getElem? hy
    refine ⟨t, _, rfl, .inl (.inl ht), rfl, _, _, rfl, _, _, rfl, rfl, ?_⟩
    refine ⟨_, rfl, _, rfl, by show 2 ≤ sizeLine; decide, fun t3 ht3 => ⟨.none, .tuple [.int 2, .int i], .non, .tup (.inl (.inl upd_same)) (.cons (.int 2) (.cons (.int _) .nil)), rfl, by simp [SeqAt.shaped, PyData.canLay0, PyData.depth, PyData.canLayAll0, PyData.depthAll], _, rfl, iteF ?_⟩⟩
    refine ⟨_, rfl, _, _, rfl, y, rfl, .inl ⟨_, _, rfl, .inr (T.t_COMMON _), rfl, flat_strs, ?_⟩⟩
    refine ⟨_, rfl, iN (by show inV _ _ = false; rw [inV_strs]; exact decide_eq_false (h1 y hmem).2) ?_⟩
    exact ⟨_, _, rfl, (m.trans m2).trans (Same.new ht3)⟩
  · rintro σ H4 ⟨u, v, rfl, m⟩
    exact k _ m
/-! ### refs -/
theorem Rf.cases {H : Hp} {r : Rf} {v : V} (h : TD' H r.d v) : ∃ (a : Addr) (x : Str) (n : Nat), v = .ref a ∧ H a = some (.tup [.str x, .int n]) ∧ ((x = "op" ∧ r = .op n) ∨ (x = "tmp" ∧ r = .tmp n)) := by
  cases r with
  | op k =>
    obtain ⟨a, vs, rfl, ha, t⟩ := h.tup
    cases t with
    | cons a1 t =>
    cases t with
    | cons a2 t =>
    cases t
    cases a1
    cases a2
    exact ⟨a, "op", k, rfl, ha, .inl ⟨rfl, rfl⟩⟩
  | tmp k =>
    obtain ⟨a, vs, rfl, ha, t⟩ := h.tup
    cases t with
    | cons a1 t =>
    cases t with
    | cons a2 t =>
    cases t
    cases a1
    cases a2
    exact ⟨a, "tmp", k, rfl, ha, .inr ⟨rfl, rfl⟩⟩
def sp_wrong_ref : Sp := sp3 fun a b _ H Q => ∃ (r : Rf) (n : Nat), TD' H r.d a ∧ b = .int n ∧ r.ok n = true ∧ ∀ H', Same H H' → Q .non H'
theorem ok_wrong_ref (T : Tz P w K mg) : Cal P w K mg base 2 "wrong_ref" sp_wrong_ref [] := by
  have c_is_known : Cal P w K mg base 1 "is_known" (sp_is_known K) [] := ok_is_known T
  have c_is_count : Cal P w K mg base 1 "is_count" sp_is_count [] := ok_is_count T
  refine mk_wrong_ref T.toTx len3 fun f cdv A outer s H vs Q E hr h => ?_
  obtain ⟨_, _, _, rfl, r, n, td, rfl, ho, k⟩ := h
  obtain ⟨a, x, m, rfl, ha, hx⟩ := Rf.cases td
  have hu := hu_of hr
  refine ⟨_, (pss_cons (ps_if (PW.pt (pw_or (pt_not (pt_val (pe_is T.b_isinstance T.b_tuple boot_tuple (pv 0)))) (pw_or (pt_cmpR op_ne (pe_callB call_len_seq (by rfl) T.b_len PySem.boot_len (pa_cons (pv 0) pa_nil)) pe_int (nomark _)) (pw_or1 (pt_not (pt_val (pe_c c_is_known hr (by first | decide | omega) rfl (pa_cons (pe_ix ix_tup (pv 0) pe_int (fun _ _ => rfl)) (pa_cons (pe_tup (pa_cons pe_str (pa_cons pe_str pa_nil))) pa_nil))))))))) pss_never pss_nil)
    (pss_cons (ps_set (i := 3) sc_wrong_ref.nd rfl (Or.inl rfl) (pe_ifExp (pt_cmpR op_eq (pe_ix ix_tup (pv 0) pe_int (fun _ _ => rfl)) pe_str (nomark _)) (pv 1) (pe_gc rfl T.k_TEMPORARIES)))
    (pss_one (ps_ret (pe_ifExp (PW.pt (pw_and (pt_val (pe_c c_is_count hr (by first | decide | omega) rfl (pa_cons (pe_ix ix_tup (pv 0) pe_int (fun _ _ => rfl)) (pa_cons pe_int pa_nil)))) (pw_and1 (pt_cmpR op_lt (pe_ix ix_tup (pv 0) pe_int (fun _ _ => rfl)) (pv 3) (nomark _))))) pe_non (pe_tup (StX.pa_star (pv 2) (pa_cons pe_int pa_nil)))))))), ?_⟩
  refine ⟨_, rfl, _, _, _, _, rfl, .base (.tup ha), ki_tt, _, rfl, iteF ?_⟩
  refine ⟨_, rfl, _, _, rfl, .inr (.inl (.inl ha)), rfl, _, rfl, iteF ?_⟩
  refine ⟨_, rfl, _, _, _, _, rfl, rfl, .inl (.inl ha), rfl, by show 2 ≤ sizeLine; decide, fun t ht => ⟨_, _, rfl, x, rfl, .inl ⟨_, _, rfl, .inr (.inl (.inl upd_same)), rfl, rfl, ⟨_, rfl, iN ?_ ?_⟩⟩⟩⟩
  · rcases hx with ⟨rfl, _⟩ | ⟨rfl, _⟩ <;> rfl
  have hb := Same.new (o := .tup [.str "op", .str "tmp"]) ht _ _ ha
  have m1 : Same H _ := Same.new (o := .tup [.str "op", .str "tmp"]) ht
  generalize upd H t (.tup [.str "op", .str "tmp"]) = H1 at hb m1 ⊢
  rcases hx with ⟨rfl, rfl⟩ | ⟨rfl, rfl⟩
  · have ho : m < n := by simpa [Rf.ok] using ho
    refine ⟨_, rfl, _, _, _, _, rfl, rfl, .inl (.inl hb), rfl, rfl, _, rfl, iteT ⟨_, rfl, ?_⟩⟩
    refine ⟨_, rfl, _, _, _, _, rfl, rfl, .inl (.inl hb), rfl, _, _, rfl, _, _, rfl, rfl, _, rfl, iP (by simp) ?_⟩
    exact ⟨_, rfl, _, _, _, _, rfl, rfl, .inl (.inl hb), rfl, _, rfl, _, _, rfl, rfl, _, rfl, iP (by simp; omega) (k _ m1)⟩
  · have ho : m < 4 := by simpa [Rf.ok] using ho
    refine ⟨_, rfl, _, _, _, _, rfl, rfl, .inl (.inl hb), rfl, rfl, _, rfl, iteF ?_⟩
    refine ⟨_, rfl, _, _, _, _, rfl, rfl, .inl (.inl hb), rfl, _, _, rfl, _, _, rfl, rfl, _, rfl, iP (by simp) ?_⟩
    exact ⟨_, rfl, _, _, _, _, rfl, rfl, .inl (.inl hb), rfl, _, rfl, _, _, rfl, rfl, _, rfl, iP (by simp; omega) (k _ m1)⟩
/-- refs in a row -/
def sp_wrong_args (K : PySem.W.Frag) : Sp := sp4 fun a b c d H Q => ∃ (l : List Rf) (n : Nat) (q : Addr) (ws : List V), TD' H (.t (l.map Rf.d)) a ∧ b = .int l.length ∧ c = .int n ∧ d = .ref q ∧ H q = some (.tup ws) ∧ ws.length < 1000 ∧ (∀ r ∈ l, r.ok n = true) ∧ ∀ H', Same H H' → Q .non H'
theorem ok_wrong_args (T : Tz P w K mg) : Cal P w K mg base 3 "wrong_args" (sp_wrong_args K) [] := by
  have c_wrong_ref : Cal P w K mg base 2 "wrong_ref" sp_wrong_ref [] := ok_wrong_ref T
  refine mk_wrong_args T.toTx len4 fun f cdv A outer s H vs Q E hr h => ?_
  obtain ⟨_, _, _, _, rfl, l, n, q, ws, td, rfl, rfl, rfl, hq, hz, ho, k⟩ := h
  obtain ⟨a, us, rfl, ha, ts⟩ := td.tup
  have hu := hu_of hr
  have hl := ts.length
  rw [List.length_map] at hl
  have sz := sizeL
  refine ⟨_, (pss_cons (ps_if (PW.pt (pw_or (pt_not (pt_val (pe_is T.b_isinstance T.b_tuple boot_tuple (pv 0)))) (pw_or1 (pt_cmpR op_ne (pe_callB call_len_seq (by rfl) T.b_len PySem.boot_len (pa_cons (pv 0) pa_nil)) (pv 1) (nomark _))))) pss_never pss_nil)
    (pss_cons (ps_for PassesOwn.never rfl (pi_enumT (by rfl) T.b_enumerate (pa_cons (pv 0) pa_nil)) (pg_tup rfl (pgs_cons (pg_name (i := 4) sc_wrong_args.nd rfl (Or.inl rfl)) (pgs_cons (pg_name (i := 5) sc_wrong_args.nd rfl (Or.inl rfl)) pgs_nil))) (pss_cons (ps_set (i := 6) sc_wrong_args.nd rfl (Or.inl rfl) (pe_c c_wrong_ref hr (by first | decide | omega) rfl (pa_cons (pv 5) (pa_cons (pv 2) (pa_cons (pe_tup (StX.pa_star (pv 3) (pa_cons (pv 4) pa_nil))) pa_nil)))))
    (pss_one (ps_if (pt_cmpR op_notN (pv 6) pe_non (nomark _)) pss_never pss_nil))))
    (pss_one (ps_ret pe_non)))), ?_⟩
  refine ⟨_, rfl, _, _, _, _, rfl, .base (.tup ha), ki_tt, _, rfl, iteF ?_⟩
  refine ⟨_, rfl, _, _, rfl, .inr (.inl (.inl ha)), _, rfl, rfl, _, rfl, iN (by simp [hl]) ?_⟩
  refine ⟨_, rfl, a, us, rfl, .inl (.inl ha), for_en (vs := us) walk_enumT (fun i σ H2 => ∃ u v x, σ = [some (.ref a), some (.int l.length), some (.int n), some (.ref q), u, v, x] ∧ Same H H2) ⟨_, _, _, rfl, Same.refl _⟩ ?_ ?_ ?_⟩
  · rintro i σ H2 _ ⟨_, _, _, _, m⟩
    exact .inl (.inl (m _ _ ha))
  · rintro i x σ H2 H3 t hx ⟨u, v, z, rfl, m⟩ m2 ht
    obtain ⟨dd, hdd, td1⟩ := TDs.get' (ts.mono (.of (m.trans m2))) hx
    rw [List.getElem?_map] at hdd
    obtain ⟨r, hr2, rfl⟩ := Option.map_eq_some_iff.mp hdd
    refine ⟨t, _, rfl, .inl (.inl ht), rfl, _, _, rfl, _, _, rfl, rfl, ?_⟩
    have hq3 := (m.trans m2) _ _ hq
    refine ⟨_, rfl, _, rfl, _, rfl, _, _, rfl, .inl (.inl (.inl hq3)), _, rfl, by simp; omega, fun t2 ht2 => ?_⟩
    refine ⟨_, _, _, rfl, r, n, td1.mono (.new ht2), rfl, ho r (List.mem_of_getElem? hr2), fun H4 m4 => ?_⟩
    exact ⟨_, rfl, rfl, _, rfl, iteF ⟨_, _, _, rfl, ((m.trans m2).trans (Same.new ht2)).trans m4⟩⟩
  · rintro σ H2 ⟨_, _, _, rfl, m⟩
    exact k _ m
end
end W73
set_option Elab.async false
set_option linter.all false
set_option maxRecDepth 100000
set_option maxHeartbeats 4000000
namespace W73
open PySem PySem.Spec PyProof.Rows L2
open C8 (Cal Met Mak pe_c pe_mk pe_mt pe_mt0 pe_gc pss_cut tCut)
section
variable {P : Program} {w : World} {K : PySem.W.Frag} {mg : Str → Option Value} {base : Heap}
def LotAt (H : Hp) (o : Addr) : Prop := ∃ o1 o2 o3, H o = some (.dK [(Sum.inr "prim", .ref o1), (Sum.inr "cause", .ref o2), (Sum.inr "port", .ref o3)]) ∧ H o1 = some (.dK [(Sum.inr "sum", .int 2), (Sum.inr "less", .int 1), (Sum.inr "unit", .int 0)]) ∧
  H o2 = some (.dK [(Sum.inr "call", .bl true), (Sum.inr "oops", .bl true)]) ∧ H o3 = some (.dK [(Sum.inr "tty", .bl true), (Sum.inr "keys", .bl true)])
theorem LotAt.same {H H' : Hp} {o : Addr} (m : Same H H') : LotAt H o → LotAt H' o := fun ⟨o1, o2, o3, h, h1, h2, h3⟩ => ⟨o1, o2, o3, m _ _ h, m _ _ h1, m _ _ h2, m _ _ h3⟩
def kNames : List (Str × List Str) := [("special", kSPECS), ("prim", ["sum", "less", "unit"]), ("cause", kCAUSES), ("port", kPORTS)]
/-- names that may be asked for a text -/
def Nm (K : PySem.W.Frag) (H : Hp) (v : V) (names : List Str) : Prop := ∀ (x : Str) (H' : Hp) (Q : VK), Same H H' → Q (.bl (decide (x ∈ names))) H' → KnIn K (.str x) v H' Q
theorem valV_has {x : Str} : ∀ {l : List (Str × V)}, (valV (l.map fun y => ((Sum.inr y.1 : Key), y.2)) (Sum.inr x)).isSome = decide (x ∈ l.map (·.1))
  | [] => rfl
  | (y, v) :: l => by
    rw [List.map_cons, List.map_cons]
    by_cases h : y = x
    · subst h
      rw [valV_pos rfl]
      simp
    · rw [valV_neg (by intro z; exact h (Sum.inr.inj z)), valV_has]
      have : (x ∈ y :: l.map (·.1)) ↔ x ∈ l.map (·.1) := by
        rw [List.mem_cons]
        exact ⟨fun z => z.elim (fun e => absurd e.symm h) id, .inr⟩
      exact decide_eq_decide.mpr this.symm
theorem Nm.dict {K : PySem.W.Frag} {H : Hp} {d : Addr} {names : List Str} {kvs : List (Key × V)} (h : H d = some (.dK kvs)) (hk : ∀ x : Str, (valV kvs (Sum.inr x)).isSome = decide (x ∈ names)) : Nm K H (.ref d) names := fun x H' Q m q =>
  .inr ⟨d, _, rfl, DGet.k (k := Sum.inr x) (m _ _ h), by rw [hk]; exact q⟩
theorem Nm.tup {K : PySem.W.Frag} {H : Hp} {d : Addr} {names : List Str} (h : ∀ H, SqT K H d (names.map V.str)) : Nm K H (.ref d) names := fun x H' Q m q =>
  .inl ⟨d, _, rfl, .inr (h H'), rfl, flat_strs, by show Q (.bl (inV _ _)) H'; rw [inV_strs]; exact q⟩
def sp_names_for (K : PySem.W.Frag) : Sp := sp2 fun a b H Q => ∃ (o : Addr) (x : Str) (names : List Str), a = .ref o ∧ b = .str x ∧ LotAt H o ∧ (x, names) ∈ kNames ∧ ∀ v, Nm K H v names → Q v H
theorem ok_names_for (T : Tz P w K mg) : Cal P w K mg base 1 "names_for" (sp_names_for K) [] := by
  refine mk_names_for T.toTx len2 fun f cdv A outer s H vs Q E hr h => ?_
  obtain ⟨_, _, rfl, o, x, names, rfl, rfl, ⟨o1, o2, o3, h0, h1, h2, h3⟩, hn, k⟩ := h
  have hu := hu_of hr
  refine ⟨_, (pss_one (ps_ret (pe_ifExp (pt_cmpR op_eq (pv 1) pe_str (nomark _)) (pe_slice sl_tupA (pe_gc rfl T.k_SPECIALS_books) po_none po_none) (pe_dget hu (pv 0) (pv 1) (fun _ _ => rfl))))), ?_⟩
  refine ⟨_, rfl, rfl, _, rfl, ?_⟩
  simp only [kNames, List.mem_cons, Prod.mk.injEq, List.not_mem_nil, or_false] at hn
  rcases hn with ⟨rfl, rfl⟩ | ⟨rfl, rfl⟩ | ⟨rfl, rfl⟩ | ⟨rfl, rfl⟩
  · refine iteT ⟨_, _, rfl, T.t_SPECIALS_books _, fun _ => k _ (Nm.tup T.t_SPECIALS_books), fun z => absurd ?_ z⟩
    exact ⟨rfl, rfl⟩
  · refine iteF ⟨_, rfl, _, rfl, o, _, rfl, DGet.k (k := Sum.inr "prim") h0, k _ (Nm.dict h1 fun x => valV_has (l := [("sum", .int 2), ("less", .int 1), ("unit", .int 0)]))⟩
  · refine iteF ⟨_, rfl, _, rfl, o, _, rfl, DGet.k (k := Sum.inr "cause") h0, k _ (Nm.dict h2 fun x => valV_has (l := [("call", .bl true), ("oops", .bl true)]))⟩
  · refine iteF ⟨_, rfl, _, rfl, o, _, rfl, DGet.k (k := Sum.inr "port") h0, k _ (Nm.dict h3 fun x => valV_has (l := [("tty", .bl true), ("keys", .bl true)]))⟩
end
end W73
set_option Elab.async false
set_option linter.all false
set_option maxRecDepth 100000
set_option maxHeartbeats 4000000
namespace W73
open PySem PySem.Spec PyProof.Rows L2
open C8 (Cal Met Mak pe_c pe_mk pe_mt pe_mt0 pe_gc pss_cut tCut)
section
variable {P : Program} {w : World} {K : PySem.W.Frag} {mg : Str → Option Value} {base : Heap}
theorem valV_lookup {α : Type} {g : α → V} {x : Str} : ∀ {l : List (Str × α)}, valV (l.map fun p => ((Sum.inr p.1 : Key), g p.2)) (Sum.inr x) = (l.lookup x).map g
  | [] => rfl
  | (y, a) :: l => by
    rw [List.map_cons, List.lookup_cons]
    by_cases h : x = y
    · subst h
      rw [valV_pos rfl]
      simp
    · rw [valV_neg (by intro z; exact h (Sum.inr.inj z).symm), valV_lookup, show (x == y) = false from beq_eq_false_iff_ne.mpr h]
/-- t == (), t != () -/
def rEqE (K : PySem.W.Frag) : R2 := fun x y H Q => ∃ a b xs, x = .ref a ∧ y = .ref b ∧ SqT K H a xs ∧ SqT K H b [] ∧ Q (.bl xs.isEmpty) H
def rNeE (K : PySem.W.Frag) : R2 := fun x y H Q => ∃ a b xs, x = .ref a ∧ y = .ref b ∧ SqT K H a xs ∧ SqT K H b [] ∧ Q (.bl (!xs.isEmpty)) H
theorem op_eqE {X : Cx} (hu : X.A.units < cLine) : OpR X (compareOp .Eq) (rEqE X.K) := by
  intro pins s σ H x y v u Q I rx ry h
  obtain ⟨a, b, xs, rfl, rfl, ha, hb, q⟩ := h
  obtain rfl : v = Value.ref a := rx
  obtain rfl : u = Value.ref b := ry
  obtain ⟨its, r1, p1, _⟩ := I.tuple ha
  obtain ⟨its2, r2, p2, _⟩ := I.tuple hb
  cases r2
  have z := SeqAt.RcAt.tuples (A := X.A) (e := fun _ => true) (show s.heap.IsTuple a its.toArray from p1) (show s.heap.IsTuple b ([] : List Value).toArray from p2) hu (fun j h1 h2 => absurd h2 (by simp))
  refine z X.prog X.w _ _ ?_
  have e : ((List.range (min its.toArray.size ([] : List Value).toArray.size)).all (fun _ => true) && its.toArray.size == ([] : List Value).toArray.size) = xs.isEmpty := by
    have l := r1.length
    cases xs with
    | nil => cases r1; rfl
    | cons x xs => cases r1; simp
  rw [e]
  exact ⟨.bl _, H, I, rfl, q⟩
theorem op_neE {X : Cx} (hu : X.A.units < cLine) : OpR X (compareOp .NotEq) (rNeE X.K) := by
  intro pins s σ H x y v u Q I rx ry h
  obtain ⟨a, b, xs, rfl, rfl, ha, hb, q⟩ := h
  obtain rfl : v = Value.ref a := rx
  obtain rfl : u = Value.ref b := ry
  obtain ⟨its, r1, p1, _⟩ := I.tuple ha
  obtain ⟨its2, r2, p2, _⟩ := I.tuple hb
  cases r2
  have z := SeqAt.RcNeAt.tuples (A := X.A) (e := fun _ => true) (show s.heap.IsTuple a its.toArray from p1) (show s.heap.IsTuple b ([] : List Value).toArray from p2) hu (fun j h1 h2 => absurd h2 (by simp))
  refine z X.prog X.w _ _ ?_
  have e : ((List.range (min its.toArray.size ([] : List Value).toArray.size)).all (fun _ => true) && its.toArray.size == ([] : List Value).toArray.size) = xs.isEmpty := by
    cases xs with
    | nil => cases r1; rfl
    | cons x xs => cases r1; simp
  rw [e]
  exact ⟨.bl _, H, I, rfl, q⟩
/-- a member d of a row whose third item is row2; R: what is asked of inner rows -/
def memOk (n : Nat) (row2 : Option D) (R : D → Prop) (sort : Str) (d : D) : Prop :=
  (sort = "ref" ∧ ∃ r : Rf, d = r.d ∧ r.ok n = true) ∨ (sort = "args" ∧ ∃ (p : Str) (l : List Rf), row2 = some (.s p) ∧ d = .t (l.map Rf.d) ∧ kPRIMS.lookup p = some l.length ∧ ∀ r ∈ l, r.ok n = true) ∨
  (sort = "rows" ∧ R d) ∨ (sort ≠ "ref" ∧ sort ≠ "args" ∧ sort ≠ "rows" ∧ ∃ (names : List Str) (y : Str), (sort, names) ∈ kNames ∧ d = .s y ∧ y ∈ names)
def RowOk (n : Nat) (R : D → Prop) (ds : List D) : Prop := ∃ (name : Str) (sorts : List Str) (rest : List D), ds = .s name :: rest ∧ (name, sorts) ∈ kFORMS ∧ rest.length = sorts.length ∧ ∀ (i : Nat) (sort : Str) (d : D), sorts[i]? = some sort → rest[i]? = some d → memOk n ds[2]? R sort d
/-- the rest of the arguments -/
structure Env6 (H : Hp) (lot q : Addr) (ws : List V) (z : Nat) : Prop where
  lo : LotAt H lot
  pa : H q = some (.tup ws)
  le : ws.length < z
theorem Env6.same {H H' : Hp} {lot q : Addr} {ws : List V} {z : Nat} (m : Same H H') (e : Env6 H lot q ws z) : Env6 H' lot q ws z := ⟨e.lo.same m, m _ _ e.pa, e.le⟩
/-- rows that R says well: the promise of wrong_rows -/
def spRs (R : Nat → D → Prop) (z : Nat) : Sp := sp4 fun a b c d H Q => ∃ (n : Nat) (ds : List D) (lot q : Addr) (ws : List V), TD' H (.t ds) a ∧ b = .ref lot ∧ c = .int n ∧ d = .ref q ∧ Env6 H lot q ws z ∧ ds.length ≤ 1000 ∧ (∀ e ∈ ds, R n e) ∧ ∀ H', Same H H' → Q .non H'
def spRw (R : Nat → D → Prop) (z : Nat) : Sp := sp4 fun a b c d H Q => ∃ (n : Nat) (e : D) (lot q : Addr) (ws : List V), TD' H e a ∧ b = .ref lot ∧ c = .int n ∧ d = .ref q ∧ Env6 H lot q ws z ∧ R n e ∧ ∀ H', Same H H' → Q .non H'
/-- rows by their inner rows -/
def RowsOf (R : Nat → D → Prop) (n : Nat) (e : D) : Prop := ∃ ds, e = .t ds ∧ RowOk n (fun d => ∃ es, d = .t es ∧ es.length ≤ 1000 ∧ ∀ x ∈ es, R n x) ds
def sp_wrong_member (R : Nat → D → Prop) (z : Nat) : Sp := sp6 fun a b c d e f H Q => ∃ (n k : Nat) (ds : List D) (x : D) (sort : Str) (lot q : Addr) (ws : List V), TD' H (.t ds) a ∧ b = .int k ∧ ds[k]? = some x ∧ c = .str sort ∧ d = .ref lot ∧ e = .int n ∧ f = .ref q ∧ Env6 H lot q ws z ∧
  memOk n ds[2]? (fun d => ∃ es, d = .t es ∧ es.length ≤ 1000 ∧ ∀ x ∈ es, R n x) sort x ∧ ∀ H', Same H H' → Q .non H'
theorem ok_wrong_member (T : Tz P w K mg) {R : Nat → D → Prop} {z k : Nat} (hk : 3 ≤ k) (hz : z ≤ 900) (c_wrong_rows : Cal P w K mg base k "wrong_rows" (spRs R z) []) : Cal P w K mg base (k + 1) "wrong_member" (sp_wrong_member R z) [] := by
  have c_wrong_ref : Cal P w K mg base 2 "wrong_ref" sp_wrong_ref [] := ok_wrong_ref T
  have c_wrong_args : Cal P w K mg base 3 "wrong_args" (sp_wrong_args K) [] := ok_wrong_args T
  have c_names_for : Cal P w K mg base 1 "names_for" (sp_names_for K) [] := ok_names_for T
  have c_is_known : Cal P w K mg base 1 "is_known" (sp_is_known K) [] := ok_is_known T
  refine mk_wrong_member T.toTx len6 fun f cdv A outer s H vs Q E hr h => ?_
  obtain ⟨_, _, _, _, _, _, rfl, n, i, ds, x, sort, lot, q, ws, td, rfl, hx, rfl, rfl, rfl, rfl, en, mo, kk⟩ := h
  obtain ⟨a, us, rfl, ha, ts⟩ := td.tup
  have hu := hu_of hr
  obtain ⟨v, hv, tv⟩ := ts.get hx
  refine ⟨_, (pss_cons (ps_set (i := 6) sc_wrong_member.nd rfl (Or.inl rfl) (pe_ix ix_tup (pv 0) (pv 1) (fun _ _ => rfl)))
    (pss_cons (ps_if (pt_cmpR op_eq (pv 2) pe_str (nomark _)) (pss_one (ps_ret (pe_c c_wrong_ref hr (by first | decide | omega) rfl (pa_cons (pv 6) (pa_cons (pv 4) (pa_cons (pv 5) pa_nil)))))) pss_nil)
    (pss_cons (ps_if (pt_cmpR op_eq (pv 2) pe_str (nomark _)) (pss_one (ps_ret (pe_c c_wrong_args hr (by first | decide | omega) rfl (pa_cons (pv 6) (pa_cons (pe_dget hu (pe_dget hu (pv 3) pe_str (fun _ _ => rfl)) (pe_ix ix_tup (pv 0) pe_int (fun _ _ => rfl)) (fun _ _ => rfl)) (pa_cons (pv 4) (pa_cons (pv 5) pa_nil))))))) pss_nil)
    (pss_cons (ps_if (pt_cmpR op_eq (pv 2) pe_str (nomark _)) (pss_one (ps_ret (pe_c c_wrong_rows hr (by first | decide | omega) rfl (pa_cons (pv 6) (pa_cons (pv 3) (pa_cons (pv 4) (pa_cons (pv 5) pa_nil))))))) pss_nil)
    (pss_one (ps_ret (pe_ifExp (pt_val (pe_c c_is_known hr (by first | decide | omega) rfl (pa_cons (pv 6) (pa_cons (pe_c c_names_for hr (by first | decide | omega) rfl (pa_cons (pv 3) (pa_cons (pv 2) pa_nil))) pa_nil)))) pe_non (pv 5)))))))), ?_⟩
  refine ⟨_, rfl, _, rfl, _, _, _, _, rfl, rfl, .inl (.inl ha), atI_nat hv, _, rfl, rfl, _, rfl, ?_⟩
  rcases mo with ⟨rfl, r, rfl, ho⟩ | ⟨rfl, p, l, h2, rfl, hl, ho⟩ | ⟨rfl, es, rfl, hl, hR⟩ | ⟨n1, n2, n3, names, y, hn, rfl, hy⟩
  · exact iteT ⟨_, rfl, _, rfl, _, rfl, _, _, _, rfl, r, n, tv, rfl, ho, kk⟩
  · refine iteF ⟨_, rfl, rfl, _, rfl, iteT ⟨_, rfl, ?_⟩⟩
    obtain ⟨o1, o2, o3, h0, h1, _, _⟩ := en.lo
    obtain ⟨v2, hv2, tv2⟩ := ts.get h2
    cases tv2
    refine ⟨_, rfl, lot, _, rfl, DGet.k (k := Sum.inr "prim") h0, _, rfl, _, _, _, _, rfl, rfl, .inl (.inl ha), atI_nat (j := 2) hv2, o1, .int l.length, rfl, ?_, ?_⟩
    · refine .inl ⟨_, Sum.inr p, .inl h1, rfl, ?_⟩
      have q := valV_lookup (g := fun n : Nat => V.int n) (x := p) (l := kPRIMS)
      rw [hl] at q
      exact q.symm
    · exact ⟨_, rfl, _, rfl, _, _, _, _, rfl, l, n, q, ws, tv, rfl, rfl, rfl, en.pa, by have := en.le; omega, ho, kk⟩
  · refine iteF ⟨_, rfl, rfl, _, rfl, iteF ⟨_, rfl, rfl, _, rfl, iteT ⟨_, rfl, _, rfl, _, rfl, _, rfl, _, _, _, _, rfl, n, es, lot, q, ws, tv, rfl, rfl, rfl, en, hl, hR, kk⟩⟩⟩
  · cases tv
    refine iN (decide_eq_false fun z => n1 (V.str.inj z)) ⟨_, rfl, rfl, _, rfl, iN (decide_eq_false fun z => n2 (V.str.inj z)) ⟨_, rfl, rfl, _, rfl, iN (decide_eq_false fun z => n3 (V.str.inj z)) ?_⟩⟩
    refine ⟨_, rfl, _, rfl, _, rfl, _, _, rfl, lot, sort, names, rfl, rfl, en.lo, hn, fun v hN => ⟨_, _, rfl, y, rfl, hN y _ _ (Same.refl _) ⟨_, rfl, iP (decide_eq_true hy) (kk _ (Same.refl _))⟩⟩⟩
theorem ok_wrong_row (T : Tz P w K mg) {R : Nat → D → Prop} {z k : Nat} (hk : 3 ≤ k) (hz : z ≤ 890) (c_wrong_rows : Cal P w K mg base k "wrong_rows" (spRs R (z + 1)) []) : Cal P w K mg base (k + 2) "wrong_row" (spRw (RowsOf R) z) [] := by
  have c_wrong_member : Cal P w K mg base (k + 1) "wrong_member" (sp_wrong_member R (z + 1)) [] := ok_wrong_member T hk (by omega) c_wrong_rows
  have c_is_known : Cal P w K mg base 1 "is_known" (sp_is_known K) [] := ok_is_known T
  refine mk_wrong_row T.toTx len4 fun f cdv A outer s H vs Q E hr h => ?_
  obtain ⟨_, _, _, _, rfl, n, _, lot, q, ws, td, rfl, rfl, rfl, en, ⟨ds, rfl, hro⟩, kk⟩ := h
  obtain ⟨a, us, rfl, ha, ts⟩ := td.tup
  have hro' := hro
  obtain ⟨name, sorts, rest, rfl, hf, hl, hm⟩ := hro
  have hu := hu_of hr
  have sz := sizeL
  have lu := ts.length
  obtain ⟨v0, hv0, tv0⟩ := ts.get (i := 0) rfl
  cases tv0
  obtain ⟨b, hb, kd⟩ := T.d_FORMS name sorts hf
  refine ⟨_, (pss_cons (ps_if (PW.pt (pw_or (pt_not (pt_val (pe_is T.b_isinstance T.b_tuple boot_tuple (pv 0)))) (pw_or (pt_cmpR (op_eqE hr.units0) (pv 0) (pe_tup pa_nil) (nomark _)) (pw_or1 (pt_not (pt_val (pe_c c_is_known hr (by first | decide | omega) rfl (pa_cons (pe_ix ix_tup (pv 0) pe_int (fun _ _ => rfl)) (pa_cons (pe_callTy (call_listK rfl) (by rfl) T.b_list boot_list (pa_cons (pe_gc rfl T.k_FORMS) pa_nil)) pa_nil))))))))) pss_never pss_nil)
    (pss_cons (ps_set (i := 4) sc_wrong_row.nd rfl (Or.inl rfl) (pe_ix ix_kdict (pe_gc rfl T.k_FORMS) (pe_ix ix_tup (pv 0) pe_int (fun _ _ => rfl)) (fun _ _ => rfl)))
    (pss_cons (ps_if (pt_cmpR op_ne (pe_callB call_len_seq (by rfl) T.b_len PySem.boot_len (pa_cons (pv 0) pa_nil)) (pe_op op_add (pe_callB call_len_seq (by rfl) T.b_len PySem.boot_len (pa_cons (pv 4) pa_nil)) pe_int) (nomark _)) pss_never pss_nil)
    (pss_cons (ps_for PassesOwn.never rfl (pi_enumT (by rfl) T.b_enumerate (pa_cons (pv 4) pa_nil)) (pg_tup rfl (pgs_cons (pg_name (i := 5) sc_wrong_row.nd rfl (Or.inl rfl)) (pgs_cons (pg_name (i := 6) sc_wrong_row.nd rfl (Or.inl rfl)) pgs_nil))) (pss_cons (ps_set (i := 7) sc_wrong_row.nd rfl (Or.inl rfl) (pe_c c_wrong_member hr (by first | decide | omega) rfl (pa_cons (pv 0) (pa_cons (pe_op op_add (pv 5) pe_int) (pa_cons (pv 6) (pa_cons (pv 1) (pa_cons (pv 2) (pa_cons (pe_tup (StX.pa_star (pv 3) (pa_cons (pe_op op_add (pv 5) pe_int) pa_nil))) pa_nil))))))))
    (pss_one (ps_if (pt_cmpR op_notN (pv 7) pe_non (nomark _)) pss_never pss_nil))))
    (pss_one (ps_ret pe_non)))))), ?_⟩
  refine ⟨_, rfl, _, _, _, _, rfl, .base (.tup ha), ki_tt, _, rfl, iteF ?_⟩
  refine ⟨_, rfl, by show 0 ≤ sizeLine; omega, fun t ht => ⟨a, t, us, rfl, rfl, .inl (.inl (Same.new ht _ _ ha)), .inl (.inl upd_same), _, rfl, ?_⟩⟩
  have m1 : Same H (upd H t (.tup [])) := Same.new ht
  generalize upd H t (.tup []) = H1 at m1 ⊢
  refine iN (by cases us; cases hv0; rfl) ?_
  refine ⟨_, rfl, _, _, _, _, rfl, rfl, .inl (.inl (m1 _ _ ha)), atI_nat (j := 0) hv0, _, _, rfl, T.y_FORMS, fun p hp => ?_⟩
  have m2 : Same H (upd H1 p (.lst ((kFORMS.map (·.1)).map .str))) := m1.trans (Same.new hp)
  have hL : (upd H1 p (.lst ((kFORMS.map (·.1)).map V.str))) p = some (.lst ((kFORMS.map (·.1)).map V.str)) := upd_same
  generalize upd H1 p (.lst ((kFORMS.map (·.1)).map V.str)) = H2 at m2 hL ⊢
  refine ⟨_, _, rfl, name, rfl, .inl ⟨p, _, rfl, .inl (.inl (.inl hL)), rfl, flat_strs, _, rfl, iN ?_ ?_⟩⟩
  · show (!inV _ _) = false
    rw [inV_strs, decide_eq_true (List.mem_map.mpr ⟨_, hf, rfl⟩)]
    rfl
  refine ⟨_, rfl, _, _, _, _, rfl, rfl, .inl (.inl (m2 _ _ ha)), atI_nat (j := 0) hv0, _, _, _, rfl, rfl, kd, ?_⟩
  refine ⟨_, rfl, _, _, rfl, .inr (.inl (.inl (m2 _ _ ha))), _, rfl, _, _, rfl, .inr (hb _), _, _, rfl, rfl, rfl, _, rfl, iN ?_ ?_⟩
  · simp only [List.length_cons, List.length_map, decide_not, Bool.not_eq_false', decide_eq_true_eq] at lu ⊢
    rw [← lu, hl]
    simp
  refine ⟨_, rfl, b, sorts.map V.str, rfl, hb _, for_en (vs := sorts.map V.str) walk_enumT (fun i σ H3 => ∃ u v x, σ = [some (.ref a), some (.ref lot), some (.int n), some (.ref q), some (.ref b), u, v, x] ∧ Same H H3) ⟨_, _, _, rfl, m2⟩ (fun i σ H3 _ _ => hb H3) ?_ ?_⟩
  · rintro i x σ H3 H4 t hx ⟨u, v, w', rfl, m⟩ m3 ht
    rw [List.getElem?_map] at hx
    obtain ⟨sort, hs, rfl⟩ := Option.map_eq_some_iff.mp hx
    have m4 := m.trans m3
    have hlt : i < rest.length := by
      rw [hl]
      exact (List.getElem?_eq_some_iff.mp hs).1
    have hr' : rest[i]? = some rest[i] := List.getElem?_eq_getElem hlt
    refine ⟨t, _, rfl, .inl (.inl ht), rfl, _, _, rfl, _, _, rfl, rfl, ?_⟩
    refine ⟨_, rfl, _, rfl, _, _, rfl, rfl, _, rfl, _, rfl, _, rfl, _, rfl, _, _, rfl, .inl (.inl (.inl (m4 _ _ en.pa))), _, rfl, _, _, rfl, rfl, by have := en.le; simp; omega, fun t2 ht2 => ?_⟩
    have m5 := m4.trans (Same.new (o := .tup (ws ++ [.int ((i : Nat) + 1)])) ht2)
    refine ⟨_, _, _, _, _, _, rfl, n, i + 1, _, rest[i], sort, lot, t2, _, td.mono (.of m5), by simp, by simpa using hr', rfl, rfl, rfl, rfl, ⟨en.lo.same m5, upd_same, by have := en.le; simp; omega⟩, hm i sort _ hs hr', fun H6 m6 => ?_⟩
    exact ⟨_, rfl, rfl, _, rfl, iteF ⟨_, _, _, rfl, m5.trans m6⟩⟩
  · rintro σ H3 ⟨_, _, _, rfl, m⟩
    exact kk _ m
end
end W73
set_option Elab.async false
set_option linter.all false
set_option maxRecDepth 100000
set_option maxHeartbeats 4000000
namespace W73
open PySem PySem.Spec PyProof.Rows L2
open C8 (Cal Met Mak pe_c pe_mk pe_mt pe_mt0 pe_gc pss_cut tCut)
section
variable {P : Program} {w : World} {K : PySem.W.Frag} {mg : Str → Option Value} {base : Heap}
theorem ok_wrong_rows (T : Tz P w K mg) {R : Nat → D → Prop} {z k : Nat} (hz : z ≤ 890) (c_wrong_row : Cal P w K mg base k "wrong_row" (spRw R (z + 1)) []) : Cal P w K mg base (k + 1) "wrong_rows" (spRs R z) [] := by
  refine mk_wrong_rows T.toTx len4 fun f cdv A outer s H vs Q E hr h => ?_
  obtain ⟨_, _, _, _, rfl, n, ds, lot, q, ws, td, rfl, rfl, rfl, en, hl, hR, kk⟩ := h
  obtain ⟨a, us, rfl, ha, ts⟩ := td.tup
  have hu := hu_of hr
  have sz := sizeL
  refine ⟨_, (pss_cons (ps_if (pt_not (pt_val (pe_is T.b_isinstance T.b_tuple boot_tuple (pv 0)))) pss_never pss_nil)
    (pss_cons (ps_for PassesOwn.never rfl (pi_enumT (by rfl) T.b_enumerate (pa_cons (pv 0) pa_nil)) (pg_tup rfl (pgs_cons (pg_name (i := 4) sc_wrong_rows.nd rfl (Or.inl rfl)) (pgs_cons (pg_name (i := 5) sc_wrong_rows.nd rfl (Or.inl rfl)) pgs_nil))) (pss_cons (ps_set (i := 6) sc_wrong_rows.nd rfl (Or.inl rfl) (pe_c c_wrong_row hr (by first | decide | omega) rfl (pa_cons (pv 5) (pa_cons (pv 1) (pa_cons (pv 2) (pa_cons (pe_tup (StX.pa_star (pv 3) (pa_cons (pv 4) pa_nil))) pa_nil))))))
    (pss_one (ps_if (pt_cmpR op_notN (pv 6) pe_non (nomark _)) pss_never pss_nil))))
    (pss_one (ps_ret pe_non)))), ?_⟩
  refine ⟨_, rfl, _, _, _, _, rfl, .base (.tup ha), ki_tt, _, rfl, iteF ?_⟩
  refine ⟨_, rfl, a, us, rfl, .inl (.inl ha), for_en (vs := us) walk_enumT (fun i σ H2 => ∃ u v x, σ = [some (.ref a), some (.ref lot), some (.int n), some (.ref q), u, v, x] ∧ Same H H2) ⟨_, _, _, rfl, Same.refl _⟩ ?_ ?_ ?_⟩
  · rintro i σ H2 _ ⟨_, _, _, _, m⟩
    exact .inl (.inl (m _ _ ha))
  · rintro i x σ H2 H3 t hx ⟨u, v, w', rfl, m⟩ m2 ht
    have m4 := m.trans m2
    obtain ⟨d, hd, td1⟩ := TDs.get' (ts.mono (.of m4)) hx
    refine ⟨t, _, rfl, .inl (.inl ht), rfl, _, _, rfl, _, _, rfl, rfl, ?_⟩
    refine ⟨_, rfl, _, rfl, _, rfl, _, rfl, _, _, rfl, .inl (.inl (.inl (m4 _ _ en.pa))), _, rfl, by have := en.le; simp; omega, fun t2 ht2 => ?_⟩
    have m5 := m4.trans (Same.new (o := .tup (ws ++ [.int (i : Nat)])) ht2)
    refine ⟨_, _, _, _, rfl, n, d, lot, t2, _, td1.mono (.new ht2), rfl, rfl, rfl, ⟨en.lo.same m5, upd_same, by have := en.le; simp; omega⟩, hR d (List.mem_of_getElem? hd), fun H6 m6 => ?_⟩
    exact ⟨_, rfl, rfl, _, rfl, iteF ⟨_, _, _, rfl, m5.trans m6⟩⟩
  · rintro σ H3 ⟨_, _, _, rfl, m⟩
    exact kk _ m
def RF : Nat → D → Prop := fun _ _ => False
def R1 : Nat → D → Prop := RowsOf (RowsOf RF)
theorem ok_rows1 (T : Tz P w K mg) : Cal P w K mg base 9 "wrong_rows" (spRs R1 801) [] := by
  have a : Cal P w K mg base 2 "wrong_row" (spRw RF 806) [] := mk_wrong_row (k := 1) T.toTx len4 fun f cdv A outer s H vs Q E hr h => by
    obtain ⟨_, _, _, _, _, _, _, _, _, _, _, _, _, _, _, z, _⟩ := h
    exact z.elim
  have b := ok_wrong_rows (z := 805) T (by decide) a
  have c := ok_wrong_row (z := 804) T (by decide) (by decide) b
  have d := ok_wrong_rows (z := 803) T (by decide) c
  have e := ok_wrong_row (z := 802) T (by decide) (by decide) d
  exact ok_wrong_rows (z := 801) T (by decide) e
/-! ### the rows of this program are well -/
theorem Rf.mem {n : Nat} {row2 : Option D} {R : D → Prop} {r : Rf} (h : r.ok n = true) : memOk n row2 R "ref" r.d := .inl ⟨rfl, r, rfl, h⟩
theorem R0.row {n : Nat} {R : D → Prop} {r : R0} (h : r.ok n = true) : RowOk n R r.ds := by
  have two : ∀ {name : Str} {s1 s2 : Str} {d1 d2 : D}, (name, [s1, s2]) ∈ kFORMS → memOk n (some d2) R s1 d1 → memOk n (some d2) R s2 d2 → RowOk n R [.s name, d1, d2] := fun {name s1 s2 d1 d2} h1 h2 h3 => ⟨name, [s1, s2], [d1, d2], rfl, h1, rfl, fun i sort d e1 e2 => by
    match i, e1, e2 with
    | 0, e1, e2 => cases e1; cases e2; exact h2
    | 1, e1, e2 => cases e1; cases e2; exact h3
    | i + 2, e1, e2 => simp at e1⟩
  have one : ∀ {name : Str} {s1 : Str} {d1 : D}, (name, [s1]) ∈ kFORMS → memOk n none R s1 d1 → RowOk n R [.s name, d1] := fun {name s1 d1} h1 h2 => ⟨name, [s1], [d1], rfl, h1, rfl, fun i sort d e1 e2 => by
    match i, e1, e2 with
    | 0, e1, e2 => cases e1; cases e2; exact h2
    | i + 1, e1, e2 => simp at e1⟩
  have nm : ∀ {row2 : Option D} {sort : Str} {names : List Str} {y : Str}, (sort, names) ∈ kNames → sort ≠ "ref" → sort ≠ "args" → sort ≠ "rows" → y ∈ names → memOk n row2 R sort (.s y) := fun {row2 sort names y} h1 h2 h3 h4 h5 => .inr (.inr (.inr ⟨h2, h3, h4, names, y, h1, rfl, h5⟩))
  cases r with
  | move a b =>
    simp only [R0.ok, Bool.and_eq_true] at h
    exact two (by simp [kFORMS]) (Rf.mem h.1) (Rf.mem h.2)
  | load a b =>
    simp only [R0.ok, Bool.and_eq_true] at h
    exact two (by simp [kFORMS]) (Rf.mem h.1) (Rf.mem h.2)
  | store a b =>
    simp only [R0.ok, Bool.and_eq_true] at h
    exact two (by simp [kFORMS]) (Rf.mem h.1) (Rf.mem h.2)
  | goto a => exact one (by simp [kFORMS]) (Rf.mem h)
  | get a x =>
    simp only [R0.ok, Bool.and_eq_true, decide_eq_true_eq] at h
    exact two (s2 := "special") (by simp [kFORMS]) (Rf.mem h.1) (nm (names := kSPECS) (by simp [kNames]) (by decide) (by decide) (by decide) h.2)
  | put x a =>
    simp only [R0.ok, Bool.and_eq_true, decide_eq_true_eq] at h
    exact two (s1 := "special") (by simp [kFORMS]) (nm (names := kSPECS) (by simp [kNames]) (by decide) (by decide) (by decide) h.1) (Rf.mem h.2)
  | inn a => exact two (s2 := "port") (by simp [kFORMS]) (Rf.mem h) (nm (names := kPORTS) (by simp [kNames]) (by decide) (by decide) (by decide) (by simp [kPORTS]))
  | out a => exact two (s1 := "port") (by simp [kFORMS]) (nm (names := kPORTS) (by simp [kNames]) (by decide) (by decide) (by decide) (by simp [kPORTS])) (Rf.mem h)
  | trap c =>
    simp only [R0.ok, decide_eq_true_eq] at h
    exact one (s1 := "cause") (by simp [kFORMS]) (nm (names := kCAUSES) (by simp [kNames]) (by decide) (by decide) (by decide) h)
  | prim a p l =>
    simp only [R0.ok, Bool.and_eq_true, decide_eq_true_eq, List.all_eq_true] at h
    obtain ⟨⟨h1, h2⟩, h3⟩ := h
    have hp : p ∈ (["sum", "less", "unit"] : List Str) := by
      have := PySem.mem_of_lookup h2
      simp only [kPRIMS, List.mem_cons, Prod.mk.injEq, List.not_mem_nil, or_false] at this
      rcases this with ⟨rfl, _⟩ | ⟨rfl, _⟩ | ⟨rfl, _⟩ <;> simp
    refine ⟨"prim", ["ref", "prim", "args"], [a.d, .s p, .t (l.map Rf.d)], rfl, by simp [kFORMS], rfl, fun i sort d e1 e2 => ?_⟩
    match i, e1, e2 with
    | 0, e1, e2 => cases e1; cases e2; exact Rf.mem h1
    | 1, e1, e2 => cases e1; cases e2; exact nm (names := ["sum", "less", "unit"]) (by simp [kNames]) (by decide) (by decide) (by decide) hp
    | 2, e1, e2 => cases e1; cases e2; exact .inr (.inl ⟨rfl, p, l, rfl, rfl, h2, h3⟩)
    | i + 3, e1, e2 => simp at e1
theorem Row.row {n : Nat} {r : Row} (h : r.ok n 1 = true) : R1 n r.d := by
  cases r with
  | r z => exact ⟨_, rfl, R0.row h⟩
  | iff a x y =>
    simp only [Row.ok, Bool.and_eq_true, decide_eq_true_eq, List.all_eq_true] at h
    obtain ⟨⟨⟨⟨⟨_, h1⟩, h2⟩, h3⟩, h4⟩, h5⟩ := h
    have rw' : ∀ l : List R0, l.length ≤ 8 → (∀ r ∈ l, r.ok n = true) → memOk n (some (.t (x.map R0.d))) (fun d => ∃ es, d = .t es ∧ es.length ≤ 1000 ∧ ∀ x ∈ es, RowsOf RF n x) "rows" (.t (l.map R0.d)) := fun l hl h => .inr (.inr (.inl ⟨rfl, _, rfl, by rw [List.length_map]; omega, fun e he => by
      obtain ⟨r, hr, rfl⟩ := List.mem_map.mp he
      exact ⟨_, rfl, R0.row (h r hr)⟩⟩))
    refine ⟨_, rfl, "if", ["ref", "rows", "rows"], [a.d, .t (x.map R0.d), .t (y.map R0.d)], rfl, by simp [kFORMS], rfl, fun i sort d e1 e2 => ?_⟩
    match i, e1, e2 with
    | 0, e1, e2 => cases e1; cases e2; exact Rf.mem h1
    | 1, e1, e2 => cases e1; cases e2; exact rw' x h2 h3
    | 2, e1, e2 => cases e1; cases e2; exact rw' y h4 h5
    | i + 3, e1, e2 => simp at e1
end
end W73
set_option Elab.async false
set_option linter.all false
set_option maxRecDepth 100000
set_option maxHeartbeats 4000000
namespace W73
open PySem PySem.Spec PyProof.Rows L2
open C8 (Cal Met Mak pe_c pe_mk pe_mt pe_mt0 pe_gc pss_cut tCut)
section
variable {P : Program} {w : World} {K : PySem.W.Frag} {mg : Str → Option Value} {base : Heap}
/-- {name: True for name in xs} -/
theorem dq_flags {σ : L2.St} {H : Hp} {Q : VK} {j : Nat} {a : Addr} {xs : List Str} (h1 : σ[j]? = some (some (.ref a))) (ha : H a = some (.lst (xs.map V.str))) (hn : xs.Nodup) (hl : xs.length ≤ 1000) (h4 : 4 < σ.length) (hj : j ≠ 4)
    (k : ∀ D H', H D = none → Same H H' → H' D = some (.dK (xs.map fun x => (Sum.inr x, V.bl true))) → Q (.ref D) H') : tDq false (iList K (tVar j)) (gName 4) tYes (tVar 4) (tC (.bl true)) [4] σ H Q := by
  have hz := sizeL
  refine ⟨_, h1, a, rfl, ⟨_, .inl (.inl ha)⟩, fun D hD => ?_⟩
  refine dq_it (walk_list (xs := xs.map V.str)) (fun i H' => Same H H' ∧ H' D = some (.dK ((xs.take i).map fun x => (Sum.inr x, V.bl true)))) ⟨Same.new hD, upd_same⟩ (fun i H' _ h => .inl (.inl (h.1 _ _ ha))) (fun i x H' H2 hi ⟨m, e⟩ y => ?_) fun H' ⟨m, e⟩ => k D H' hD m (by simpa using e)
  obtain ⟨rfl, hx⟩ := y
  have hlt : i < xs.length := by simpa using hi
  rw [List.getElem?_map, List.getElem?_eq_getElem hlt] at hx
  cases hx
  have hv : valV ((xs.take i).map fun x => ((Sum.inr x : Key), V.bl true)) (Sum.inr xs[i]) = none := valV_none fun p hp => by
    obtain ⟨x, hx, rfl⟩ := List.mem_map.mp hp
    intro z
    cases z
    exact take_notin hn hlt hx
  have hw : (wipe σ [4]).length = σ.length := wipe_length ..
  refine ⟨?_, ?_⟩
  · show wipe ((wipe σ [4]).set 4 (some (V.str xs[i]))) [4] = wipe σ [4]
    simp [wipe]
  · unfold tYes
    dsimp only
    rw [if_pos rfl]
    refine ⟨.str xs[i], ?_, _, DPut.k (k := Sum.inr xs[i]) e (by simp; omega), Same.mut m hD, ?_⟩
    · show ((wipe σ [4]).set 4 (some (V.str xs[i])))[4]? = _
      rw [List.getElem?_set_self (by omega)]
    · rw [upd_same, putK_new hv, List.take_add_one, List.getElem?_eq_getElem hlt, Option.toList, List.map_append]
      rfl
def sp_lot_of : Sp := sp3 fun a b c H Q => ∃ p1 p2 p3, a = .ref p1 ∧ b = .ref p2 ∧ c = .ref p3 ∧ LD H p1 (kPRIMS.map pD) ∧ H p2 = some (.lst (kCAUSES.map V.str)) ∧ H p3 = some (.lst (kPORTS.map V.str)) ∧ ∀ o H', Same H H' → LotAt H' o → Q (.ref o) H'
theorem ok_lot_of (T : Tz P w K mg) : Cal P w K mg base 1 "lot_of" sp_lot_of [] := by
  refine mk_lot_of T.toTx len3 fun f cdv A outer s H vs Q E hr h => ?_
  obtain ⟨_, _, _, rfl, p1, p2, p3, rfl, rfl, rfl, ⟨us, h1, ts⟩, h2, h3, k⟩ := h
  have hu := hu_of hr
  refine ⟨_, (pss_cons (ps_setDq (i := 3)  (own := [("name", 4)]) (g := gName 4) (tt := tYes) false hu (by rfl) sc_lot_of.nd rfl rfl (swD_true rfl rfl rfl (by decide +kernel)) (pi_list (pv 1)) (blkOk_by (N := ["primitives", "causes", "ports", "known", "name"]) (sc := defScope s_lot_of) (by decide +kernel)) (fun _ _ _ _ _ => (pg_name (i := 4) sc_lot_of.nd rfl (Or.inl rfl))) (fun _ _ _ _ _ => pts_nil) (fun _ _ _ _ _ => (pv 4)) (fun _ _ _ _ _ => pe_bl))
    (pss_one (ps_ret (pe_disp (pps_cons pe_str (pe_callTy (call_dictP rfl) (by rfl) T.b_dict boot_dict (pa_cons (pv 0) pa_nil)) (pps_cons pe_str (pv 3) (pps_cons pe_str (pe_dq  (own := [("name", 4)]) (g := gName 4) (tt := tYes) false hu rfl sc_lot_of.nd (pi_list (pv 2)) (blkOk_by (N := ["primitives", "causes", "ports", "known", "name"]) (sc := defScope s_lot_of) (by decide +kernel)) (fun _ _ _ _ _ => (pg_name (i := 4) sc_lot_of.nd rfl (Or.inl rfl))) (fun _ _ _ _ _ => pts_nil) (fun _ _ _ _ _ => (pv 4)) (fun _ _ _ _ _ => pe_bl)) pps_nil))) (by rfl) (by rfl) (fun z => by cases z) (by decide))))), ?_⟩
  unfold tSeq tAsg
  dsimp only
  show tDq false (iList K (tVar 1)) (gName 4) tYes (tVar 4) (tC (.bl true)) [4] [some (.ref p1), some (.ref p2), some (.ref p3), none, none] H _
  refine dq_flags (j := 1) (xs := kCAUSES) (σ := [some (.ref p1), some (.ref p2), some (.ref p3), none, none]) rfl h2 (by decide) (by decide) (by simp) (by decide) fun D H1 hD m1 hd => ?_
  refine fun p hp => ?_
  have m2 : Same H (upd H1 p (.dK [])) := m1.trans (Same.new hp)
  have n1 : p ≠ D := fun z => by rw [z, hd] at hp; cases hp
  have hp2 : (upd H1 p (.dK [])) p = some (.dK []) := upd_same
  have hd2 : (upd H1 p (.dK [])) D = some (.dK (kCAUSES.map fun x => (Sum.inr x, V.bl true))) := (upd_ne n1.symm).trans hd
  generalize upd H1 p (.dK []) = H2 at m2 hp2 hd2 ⊢
  obtain ⟨ps, e1, hpr⟩ : ∃ ps : List Addr, us = ps.map V.ref ∧ Paired (fun p (kv : Key × V) => SqT K H p [kV kv.1, kv.2]) ps (kPRIMS.map fun x => ((Sum.inr x.1 : Key), V.int x.2)) := by
    clear h1 m1 m2
    generalize kPRIMS = l at ts
    induction l generalizing us with
    | nil => cases ts; exact ⟨[], rfl, .nil⟩
    | cons x l ih =>
      cases ts with
      | cons a b =>
        obtain ⟨ps, e, q⟩ := ih _ b
        obtain ⟨p, vs, rfl, hp, t⟩ := a.tup
        cases t with
        | cons t1 t =>
        cases t with
        | cons t2 t =>
        cases t
        cases t1
        cases t2
        exact ⟨p :: ps, by rw [e]; rfl, .cons (.inl (.inl hp)) q⟩
  subst e1
  unfold tPairs
  refine ⟨_, rfl, p1, ps, _, rfl, .inl (.inl (m2 _ _ h1)), L2.Paired.mapP hpr (fun p kv q => W73.Same.seqT m2 q), fun q hq => ?_⟩
  have m3 : Same H2 (upd H2 q (.dK (mergeK [] (kPRIMS.map fun x => ((Sum.inr x.1 : Key), V.int x.2))))) := Same.new hq
  have hq3 : (upd H2 q (.dK (mergeK [] (kPRIMS.map fun x => ((Sum.inr x.1 : Key), V.int x.2))))) q = some (.dK [(Sum.inr "sum", .int 2), (Sum.inr "less", .int 1), (Sum.inr "unit", .int 0)]) := upd_same
  generalize upd H2 q (.dK (mergeK [] (kPRIMS.map fun x => ((Sum.inr x.1 : Key), V.int x.2)))) = H3 at m3 hq3 ⊢
  unfold tPairs
  refine ⟨_, rfl, ?_⟩
  unfold tPairs tC
  dsimp only
  show tDq false (iList K (tVar 2)) (gName 4) tYes (tVar 4) (tC (.bl true)) [4] [some (.ref p1), some (.ref p2), some (.ref p3), some (.ref D), none] H3 _
  refine dq_flags (j := 2) (xs := kPORTS) (σ := [some (.ref p1), some (.ref p2), some (.ref p3), some (.ref D), none]) rfl ((m2.trans m3) _ _ h3) (by decide) (by decide) (by simp) (by decide) fun D2 H4 hD2 m4 hd4 => ?_
  have m5 := m3.trans m4
  refine ⟨m5 _ _ hp2, [(Sum.inr "prim", .ref q), (Sum.inr "cause", .ref D), (Sum.inr "port", .ref D2)], rfl, by simp, ?_⟩
  have n2 : q ≠ p := fun z => by rw [z, m3 _ _ hp2] at hq3; cases hq3
  have n3 : D2 ≠ p := fun z => by rw [z, m5 _ _ hp2] at hd4; cases hd4
  refine k _ _ (Same.mut ?_ ?_) ⟨q, D, D2, upd_same, (upd_ne n2).trans (m4 _ _ hq3), (upd_ne n1.symm).trans (m5 _ _ hd2), (upd_ne n3).trans hd4⟩
  · exact m2.trans m5
  · exact Same.none m1 hp
end
end W73
set_option Elab.async false
set_option linter.all false
set_option maxRecDepth 100000
set_option maxHeartbeats 4000000
namespace W73
open PySem PySem.Spec PyProof.Rows L2
open C8 (Cal Met Mak pe_c pe_mk pe_mt pe_mt0 pe_gc pss_cut tCut)
section
variable {P : Program} {w : World} {K : PySem.W.Frag} {mg : Str → Option Value} {base : Heap}
theorem Ins.cases {H : Hp} {i : Ins} {v : V} (h : TD' H i.d v) : ∃ (a : Addr) (v2 v3 : V), v = .ref a ∧ H a = some (.tup [.str i.nm, .int i.n, v2, v3]) ∧ TD' H (.t (i.us.map Row.d)) v2 ∧ TD' H (.t (i.sy.map Row.d)) v3 := by
  obtain ⟨a, vs, rfl, ha, t⟩ := h.tup
  unfold Ins.ds at t
  cases t with
  | cons t1 t =>
  cases t with
  | cons t2 t =>
  cases t with
  | cons t3 t =>
  cases t with
  | cons t4 t =>
  cases t
  cases t1
  cases t2
  exact ⟨a, _, _, rfl, ha, t3, t4⟩
theorem Rows.r1 {n : Nat} {l : List Row} (h : Rows.ok n 1 l = true) : (l.map Row.d).length ≤ 1000 ∧ ∀ e ∈ l.map Row.d, R1 n e := by
  simp only [Rows.ok, Bool.and_eq_true, decide_eq_true_eq, List.all_eq_true] at h
  refine ⟨by rw [List.length_map]; omega, fun e he => ?_⟩
  obtain ⟨r, hr, rfl⟩ := List.mem_map.mp he
  exact Row.row (h.2 r hr)
def sp_wrong_instruction : Sp := sp4 fun a b c d H Q => ∃ (i : Ins) (kn : Addr) (kvs : List (Key × V)) (lot q : Addr) (ws : List V), TD' H i.d a ∧ b = .ref kn ∧ H kn = some (.dK kvs) ∧ valV kvs (Sum.inr i.nm) = none ∧ c = .ref lot ∧ d = .ref q ∧ Env6 H lot q ws 700 ∧ i.ok = true ∧ ∀ H', Same H H' → Q .non H'
theorem ok_wrong_instruction (T : Tz P w K mg) : Cal P w K mg base 10 "wrong_instruction" sp_wrong_instruction [] := by
  have c_is_name : Cal P w K mg base 1 "is_name" sp_is_name [] := ok_is_name T
  have c_is_count : Cal P w K mg base 1 "is_count" sp_is_count [] := ok_is_count T
  have c_wrong_rows : Cal P w K mg base 9 "wrong_rows" (spRs R1 801) [] := ok_rows1 T
  refine mk_wrong_instruction T.toTx len4 fun f cdv A outer s H vs Q E hr h => ?_
  obtain ⟨_, _, _, _, rfl, i, kn, kvs, lot, q, ws, td, rfl, hk, hv, rfl, rfl, en, ho, k⟩ := h
  obtain ⟨a, v2, v3, rfl, ha, t2, t3⟩ := Ins.cases td
  simp only [Ins.ok, Bool.and_eq_true, decide_eq_true_eq] at ho
  obtain ⟨⟨⟨h1, h2⟩, h3⟩, h4⟩ := ho
  have hu := hu_of hr
  have sz := sizeL
  refine ⟨_, (pss_cons (ps_if (PW.pt (pw_or (pt_not (pt_val (pe_is T.b_isinstance T.b_tuple boot_tuple (pv 0)))) (pw_or1 (pt_cmpR op_ne (pe_callB call_len_seq (by rfl) T.b_len PySem.boot_len (pa_cons (pv 0) pa_nil)) pe_int (nomark _))))) pss_never pss_nil)
    (pss_cons (ps_if (PW.pt (pw_or (pt_not (pt_val (pe_c c_is_name hr (by first | decide | omega) rfl (pa_cons (pe_ix ix_tup (pv 0) pe_int (fun _ _ => rfl)) pa_nil)))) (pw_or1 (pt_cmp (pc_din hu (pe_ix ix_tup (pv 0) pe_int (fun _ _ => rfl)) (pv 1)))))) pss_never pss_nil)
    (pss_cons (ps_if (pt_not (pt_val (pe_c c_is_count hr (by first | decide | omega) rfl (pa_cons (pe_ix ix_tup (pv 0) pe_int (fun _ _ => rfl)) (pa_cons pe_int pa_nil))))) pss_never pss_nil)
    (pss_cons (ps_set (i := 4) sc_wrong_instruction.nd rfl (Or.inl rfl) (pe_c c_wrong_rows hr (by first | decide | omega) rfl (pa_cons (pe_ix ix_tup (pv 0) pe_int (fun _ _ => rfl)) (pa_cons (pv 2) (pa_cons (pe_ix ix_tup (pv 0) pe_int (fun _ _ => rfl)) (pa_cons (pe_tup (StX.pa_star (pv 3) (pa_cons pe_int pa_nil))) pa_nil))))))
    (pss_one (ps_ret (pe_ifExp (pt_cmpR op_notN (pv 4) pe_non (nomark _)) (pv 4) (pe_c c_wrong_rows hr (by first | decide | omega) rfl (pa_cons (pe_ix ix_tup (pv 0) pe_int (fun _ _ => rfl)) (pa_cons (pv 2) (pa_cons (pe_ix ix_tup (pv 0) pe_int (fun _ _ => rfl)) (pa_cons (pe_tup (StX.pa_star (pv 3) (pa_cons pe_int pa_nil))) pa_nil)))))))))))), ?_⟩
  refine ⟨_, rfl, _, _, _, _, rfl, .base (.tup ha), ki_tt, _, rfl, iteF ?_⟩
  refine ⟨_, rfl, _, _, rfl, .inr (.inl (.inl ha)), rfl, _, rfl, iteF ?_⟩
  refine ⟨_, rfl, _, _, _, _, rfl, rfl, .inl (.inl ha), rfl, _, rfl, i.nm, rfl, h1, fun H1 m1 => ⟨_, rfl, iteF ?_⟩⟩
  have ha1 := m1 _ _ ha
  refine ⟨_, rfl, _, _, _, _, rfl, rfl, .inl (.inl ha1), rfl, _, rfl, kn, _, rfl, DGet.k (k := Sum.inr i.nm) (m1 _ _ hk), _, rfl, iN (by rw [hv]; rfl) ?_⟩
  refine ⟨_, rfl, _, _, _, _, rfl, rfl, .inl (.inl ha1), rfl, _, _, rfl, _, _, rfl, rfl, _, rfl, iN (by simp) ?_⟩
  refine ⟨_, rfl, _, _, _, _, rfl, rfl, .inl (.inl ha1), rfl, _, rfl, _, rfl, _, _, _, _, rfl, rfl, .inl (.inl ha1), rfl, _, rfl, _, _, rfl, .inl (.inl (.inl (m1 _ _ en.pa))), by have := en.le; simp; omega, fun t ht => ?_⟩
  have m2 : Same H (upd H1 t (.tup (ws ++ [.int 2]))) := m1.trans (Same.new ht)
  have hq2 : (upd H1 t (.tup (ws ++ [.int 2]))) t = some (.tup (ws ++ [.int 2])) := upd_same
  generalize upd H1 t (.tup (ws ++ [.int 2])) = H2 at m2 hq2 ⊢
  refine ⟨_, _, _, _, rfl, i.n, _, lot, t, _, t2.mono (.of m2), rfl, rfl, rfl, ⟨en.lo.same m2, hq2, by have := en.le; simp; omega⟩, (Rows.r1 h3).1, (Rows.r1 h3).2, fun H3 m3 => ?_⟩
  have m4 := m2.trans m3
  have ha3 := m4 _ _ ha
  refine ⟨_, rfl, rfl, _, rfl, iteF ?_⟩
  refine ⟨_, rfl, _, _, _, _, rfl, rfl, .inl (.inl ha3), rfl, _, rfl, _, rfl, _, _, _, _, rfl, rfl, .inl (.inl ha3), rfl, _, rfl, _, _, rfl, .inl (.inl (.inl (m4 _ _ en.pa))), by have := en.le; simp; omega, fun t' ht' => ?_⟩
  have m5 : Same H (upd H3 t' (.tup (ws ++ [.int 3]))) := m4.trans (Same.new ht')
  have hq5 : (upd H3 t' (.tup (ws ++ [.int 3]))) t' = some (.tup (ws ++ [.int 3])) := upd_same
  generalize upd H3 t' (.tup (ws ++ [.int 3])) = H5 at m5 hq5 ⊢
  exact ⟨_, _, _, _, rfl, i.n, _, lot, t', _, t3.mono (.of m5), rfl, rfl, rfl, ⟨en.lo.same m5, hq5, by have := en.le; simp; omega⟩, (Rows.r1 h4).1, (Rows.r1 h4).2, fun H6 m6 => k _ (m5.trans m6)⟩
def sp_wrong_instructions : Sp := sp2 fun a b H Q => ∃ (p : Addr) (is : List Ins) (lot : Addr), a = .ref p ∧ LD H p (is.map Ins.d) ∧ b = .ref lot ∧ LotAt H lot ∧ (∀ i ∈ is, i.ok = true) ∧ (is.map Ins.nm).Nodup ∧ is.length ≤ 1000 ∧ ∀ H', Same H H' → Q .non H'
theorem ok_wrong_instructions (T : Tz P w K mg) : Cal P w K mg base 11 "wrong_instructions" sp_wrong_instructions [] := by
  have c_wrong_instruction : Cal P w K mg base 10 "wrong_instruction" sp_wrong_instruction [] := ok_wrong_instruction T
  refine mk_wrong_instructions T.toTx len2 fun f cdv A outer s H vs Q E hr h => ?_
  obtain ⟨_, _, rfl, p, is, lot, rfl, ⟨us, hp, td⟩, rfl, hlo, h1, h2, h3, k⟩ := h
  have hu := hu_of hr
  have hz := sizeL
  refine ⟨_, (pss_cons (ps_if (pt_not (pt_val (pe_isLT T.b_isinstance T.b_list T.b_tuple (pv 0)))) pss_never pss_nil)
    (pss_cons (ps_set (i := 2) sc_wrong_instructions.nd rfl (Or.inl rfl) pe_dnewK)
    (pss_cons (ps_for PassesOwn.never rfl (pi_enum (by rfl) T.b_enumerate (pa_cons (pv 0) pa_nil)) (pg_tup rfl (pgs_cons (pg_name (i := 3) sc_wrong_instructions.nd rfl (Or.inl rfl)) (pgs_cons (pg_name (i := 4) sc_wrong_instructions.nd rfl (Or.inl rfl)) pgs_nil))) (pss_cons (ps_set (i := 5) sc_wrong_instructions.nd rfl (Or.inl rfl) (pe_c c_wrong_instruction hr (by first | decide | omega) rfl (pa_cons (pv 4) (pa_cons (pv 2) (pa_cons (pv 1) (pa_cons (pe_tup (pa_cons pe_int (pa_cons (pv 3) pa_nil))) pa_nil))))))
    (pss_cons (ps_if (pt_cmpR op_notN (pv 5) pe_non (nomark _)) pss_never pss_nil)
    (pss_one (ps_dput hu (pv 2) (pe_ix ix_tup (pv 4) pe_int (fun _ _ => rfl)) pe_bl rfl)))))
    (pss_one (ps_ret pe_non))))), ?_⟩
  refine ⟨_, rfl, by show 2 ≤ sizeLine; decide, fun tp ht => ⟨_, tp, rfl, upd_same, ⟨p, _, rfl, .inl (Same.new ht _ _ hp)⟩, _, rfl, iteF ?_⟩⟩
  have m1 : Same H (upd H tp (.tup [.ty "list", .ty "tuple"])) := Same.new ht
  generalize upd H tp (.tup [.ty "list", .ty "tuple"]) = H1 at m1 ⊢
  intro d hd
  have hl := td.length
  rw [List.length_map] at hl
  refine ⟨_, rfl, p, us, rfl, .inl (.inl (Same.new hd _ _ (m1 _ _ hp))), for_en (vs := us) walk_enum (fun i σ H2 => ∃ u v x, σ = [some (.ref p), some (.ref lot), some (.ref d), u, v, x] ∧ Same H1 H2 ∧ H2 d = some (.dK (((is.map Ins.nm).take i).map fun x => (Sum.inr x, V.bl true)))) ⟨_, _, _, rfl, Same.new hd, upd_same⟩ ?_ ?_ ?_⟩
  · rintro i σ H2 _ ⟨_, _, _, _, m, _⟩
    exact .inl (.inl (m _ _ (m1 _ _ hp)))
  · rintro i x σ H2 H3 t hx ⟨u, v, z, rfl, m, e⟩ m2 ht
    have m3 := (m1.trans m).trans m2
    obtain ⟨dd, hdd, td1⟩ := TDs.get' (td.mono (.of m3)) hx
    have hlt : i < is.length := by rw [hl]; exact (List.getElem?_eq_some_iff.mp hx).1
    rw [List.getElem?_map, List.getElem?_eq_getElem hlt] at hdd
    have hmem : is[i] ∈ is := List.getElem_mem hlt
    have hk : (is.map Ins.nm)[i]'(by simpa using hlt) = is[i].nm := by simp
    generalize is[i] = q at hdd hmem hk
    cases hdd
    have hv : valV (((is.map Ins.nm).take i).map fun x => ((Sum.inr x : Key), V.bl true)) (Sum.inr q.nm) = none := valV_none fun p hp => by
      obtain ⟨x, hx, rfl⟩ := List.mem_map.mp hp
      intro z
      cases z
      have := take_notin h2 (i := i) (by simpa using hlt)
      rw [hk] at this
      exact this hx
    refine ⟨t, _, rfl, .inl (.inl ht), rfl, _, _, rfl, _, _, rfl, rfl, ?_⟩
    refine ⟨_, rfl, _, rfl, _, rfl, _, rfl, by show 2 ≤ sizeLine; decide, fun t2 ht2 => ?_⟩
    have m4 := Same.new (o := .tup [.int 4, .int (i : Nat)]) ht2
    have m5 := m3.trans m4
    refine ⟨_, _, _, _, rfl, q, d, _, lot, t2, _, td1.mono (.of m4), rfl, m4 _ _ (m2 _ _ e), hv, rfl, rfl, ⟨hlo.same m5, upd_same, by simp⟩, h1 q hmem, fun H6 m6 => ?_⟩
    have e6 := m6 _ _ (m4 _ _ (m2 _ _ e))
    obtain ⟨a2, v2, v3, rfl, ha2, _⟩ := Ins.cases td1
    refine ⟨_, rfl, rfl, _, rfl, iteF ?_⟩
    refine ⟨_, rfl, _, rfl, _, _, _, _, rfl, rfl, .inl (.inl (m6 _ _ (m4 _ _ ha2))), rfl, d, _, rfl, DPut.k (k := Sum.inr q.nm) e6 (by simp; omega), _, _, _, rfl, Same.mut (((m.trans m2).trans m4).trans m6) hd, ?_⟩
    rw [upd_same, putK_new hv, List.take_add_one, List.getElem?_eq_getElem (by simpa using hlt), hk, Option.toList, List.map_append]
    rfl
  · rintro σ H2 ⟨u, v, x, rfl, m, e⟩
    exact k _ (m1.trans m)
end
end W73
set_option Elab.async false
set_option linter.all false
set_option maxRecDepth 100000
set_option maxHeartbeats 4000000
namespace W73
open PySem PySem.Spec PyProof.Rows L2
open C8 (Cal Met Mak pe_c pe_mk pe_mt pe_mt0 pe_gc pss_cut tCut)
section
variable {P : Program} {w : World} {K : PySem.W.Frag} {mg : Str → Option Value} {base : Heap}
def sp_wrong_book : Sp := sp5 fun a b c d e H Q => ∃ (r : Int) (p1 p2 p3 p4 : Addr) (is : List Ins), a = .int r ∧ 1 ≤ r ∧ b = .ref p1 ∧ c = .ref p2 ∧ d = .ref p3 ∧ e = .ref p4 ∧ LD H p1 (kPRIMS.map pD) ∧ H p2 = some (.lst (kCAUSES.map V.str)) ∧ H p3 = some (.lst (kPORTS.map V.str)) ∧ LD H p4 (is.map Ins.d) ∧
  (∀ i ∈ is, i.ok = true) ∧ (is.map Ins.nm).Nodup ∧ is.length ≤ 1000 ∧ ∀ H', Same H H' → Q .non H'
theorem ok_wrong_book (T : Tz P w K mg) : Cal P w K mg base 12 "wrong_book" sp_wrong_book [] := by
  have c_is_count : Cal P w K mg base 1 "is_count" sp_is_count [] := ok_is_count T
  have c_wrong_primitives : Cal P w K mg base 2 "wrong_primitives" sp_wrong_primitives [] := ok_wrong_primitives T
  have c_wrong_causes : Cal P w K mg base 3 "wrong_causes" sp_wrong_causes [] := ok_wrong_causes T
  have c_wrong_names : Cal P w K mg base 2 "wrong_names" sp_wrong_names [] := ok_wrong_names T
  have c_wrong_instructions : Cal P w K mg base 11 "wrong_instructions" sp_wrong_instructions [] := ok_wrong_instructions T
  have c_lot_of : Cal P w K mg base 1 "lot_of" sp_lot_of [] := ok_lot_of T
  refine mk_wrong_book T.toTx len5 fun f cdv A outer s H vs Q E hr h => ?_
  obtain ⟨_, _, _, _, _, rfl, r, p1, p2, p3, p4, is, rfl, hr1, rfl, rfl, rfl, rfl, h1, h2, h3, h4, ho, hn, hz, k⟩ := h
  have hu := hu_of hr
  refine ⟨_, (pss_cons (ps_if (pt_not (pt_val (pe_c c_is_count hr (by first | decide | omega) rfl (pa_cons (pv 0) (pa_cons pe_int pa_nil))))) pss_never pss_nil)
    (pss_cons (ps_for PassesOwn.never rfl (pi_tup (pe_tup (pa_cons (pe_c c_wrong_primitives hr (by first | decide | omega) rfl (pa_cons (pv 1) pa_nil)) (pa_cons (pe_c c_wrong_causes hr (by first | decide | omega) rfl (pa_cons (pv 2) pa_nil)) (pa_cons (pe_c c_wrong_names hr (by first | decide | omega) rfl (pa_cons (pv 3) (pa_cons (pe_tup (pa_cons pe_int pa_nil)) pa_nil))) pa_nil))))) (pg_name (i := 5) sc_wrong_book.nd rfl (Or.inl rfl)) (pss_one (ps_if (pt_cmpR op_notN (pv 5) pe_non (nomark _)) pss_never pss_nil)))
    (pss_one (ps_ret (pe_c c_wrong_instructions hr (by first | decide | omega) rfl (pa_cons (pv 4) (pa_cons (pe_c c_lot_of hr (by first | decide | omega) rfl (pa_cons (pv 1) (pa_cons (pv 2) (pa_cons (pv 3) pa_nil)))) pa_nil))))))), ?_⟩
  refine ⟨_, rfl, _, _, rfl, _, _, rfl, rfl, _, rfl, iN (by simp; omega) ?_⟩
  refine ⟨_, rfl, _, rfl, p1, kPRIMS, rfl, h1, by decide, by decide, by decide, fun H1 m1 => ?_⟩
  refine ⟨_, rfl, _, rfl, p2, kCAUSES, rfl, m1 _ _ h2, by decide, by decide, by decide, fun H2 m2 => ?_⟩
  have m3 := m1.trans m2
  refine ⟨_, rfl, by show 1 ≤ sizeLine; decide, fun t ht => ?_⟩
  have m4 := m3.trans (Same.new (o := .tup [.int 3]) ht)
  generalize upd H2 t (.tup [.int 3]) = H3 at m4 ⊢
  refine ⟨_, _, rfl, p3, kPORTS, rfl, m4 _ _ h3, by decide, by decide, by decide, fun H4 m5 => ?_⟩
  have m6 := m4.trans m5
  refine ⟨by show 3 ≤ sizeLine; decide, fun t2 ht2 => ?_⟩
  have m7 := m6.trans (Same.new (o := .tup [.non, .non, .non]) ht2)
  have e7 : (upd H4 t2 (.tup [.non, .non, .non])) t2 = some (.tup [.non, .non, .non]) := upd_same
  generalize upd H4 t2 (.tup [.non, .non, .non]) = H5 at m7 e7 ⊢
  refine ⟨t2, rfl, ⟨_, .inl (.inl e7)⟩, for_tup (xs := [.non, .non, .non]) (fun i σ H6 => ∃ x, σ = [some (.int r), some (.ref p1), some (.ref p2), some (.ref p3), some (.ref p4), x] ∧ Same H5 H6) ⟨_, rfl, Same.refl _⟩ ?_ ?_ ?_⟩
  · rintro i σ H6 _ ⟨_, _, m⟩
    exact .inl (.inl (m _ _ e7))
  · rintro i x σ H6 hx ⟨u, rfl, m⟩
    obtain rfl : x = .non := by
      match i, hx with
      | 0, hx => cases hx; rfl
      | 1, hx => cases hx; rfl
      | 2, hx => cases hx; rfl
      | i + 3, hx => simp at hx
    exact ⟨_, rfl, rfl, _, rfl, iteF ⟨_, rfl, m⟩⟩
  · rintro σ H6 ⟨u, rfl, m⟩
    have m8 := m7.trans m
    refine ⟨_, rfl, _, rfl, _, rfl, _, rfl, _, _, _, rfl, p1, p2, p3, rfl, rfl, rfl, h1.same m8, m8 _ _ h2, m8 _ _ h3, fun o H7 m9 hlo => ?_⟩
    have m10 := m8.trans m9
    exact ⟨_, _, rfl, p4, is, o, rfl, h4.same m10, rfl, hlo, ho, hn, hz, fun H8 m11 => k _ (m10.trans m11)⟩
/-! ### the book -/
/-- all but x stands -/
def Bt (x : Addr) (H H' : Hp) : Prop := ∀ b u, b ≠ x → H b = some u → H' b = some u
theorem Bt.of {x : Addr} {H H' : Hp} (m : Same H H') : Bt x H H' := fun b u _ e => m b u e
theorem Bt.trans {x : Addr} {H H1 H2 : Hp} (a : Bt x H H1) (b : Bt x H1 H2) : Bt x H H2 := fun c u n e => b c u n (a c u n e)
theorem Bt.put {x : Addr} {H : Hp} {o : HO} : Bt x H (upd H x o) := fun b u n e => (upd_ne n).trans e
theorem Bt.tps {x : Addr} {H H' : Hp} (m : Bt x H H') {o : HO} (hx : H x = some o) (ho : ∀ xs, o ≠ .tup xs) : Tps H H' := fun a xs e => m a _ (fun z => by rw [z, hx] at e; cases e; exact ho _ rfl) e
/-- made: what a caller of C(..) sees -/
theorem Bt.made {x dx : Addr} {H H' : Hp} {C : Addr} {fs : List (Str × V)} (hx : H x = none) (hd : H dx = none) (m : Bt x (upd (upd H dx (.own x)) x (.ins C dx fs)) H') : Same H H' := fun b u e => m b u (ne_of_none e hx) (by
  rw [upd_ne (ne_of_none e hx), upd_ne (ne_of_none e hd)]
  exact e)
def BookAt (K : PySem.W.Frag) (H : Hp) (b : Addr) (r : Int) (is : List Ins) : Prop := ∃ dx a1 a2 a3 a4, H b = some (.ins (C_Book K) dx [("width", .int r), ("pairs", .ref a1), ("own", .ref a2), ("doors", .ref a3), ("held", .ref a4)]) ∧ TD' H (.t (kPRIMS.map pD)) (.ref a1) ∧ TD' H (.t (kCAUSES.map D.s)) (.ref a2) ∧
  TD' H (.t (kPORTS.map D.s)) (.ref a3) ∧ TD' H (.t (is.map Ins.d)) (.ref a4)
theorem BookAt.same {H H' : Hp} {b : Addr} {r : Int} {is : List Ins} (m : Same H H') : BookAt K H b r is → BookAt K H' b r is := fun ⟨dx, a1, a2, a3, a4, h, h1, h2, h3, h4⟩ => ⟨dx, a1, a2, a3, a4, m _ _ h, h1.mono (.of m), h2.mono (.of m), h3.mono (.of m), h4.mono (.of m)⟩
def sp_Book_init (K : PySem.W.Frag) : Sp := sp6 fun x a b c d e H Q => ∃ (y dx : Addr) (r : Int) (p1 p2 p3 p4 : Addr) (is : List Ins), x = .ref y ∧ H y = some (.ins (C_Book K) dx []) ∧ a = .int r ∧ 1 ≤ r ∧ b = .ref p1 ∧ c = .ref p2 ∧ d = .ref p3 ∧ e = .ref p4 ∧ LD H p1 (kPRIMS.map pD) ∧ H p2 = some (.lst (kCAUSES.map V.str)) ∧ H p3 = some (.lst (kPORTS.map V.str)) ∧ LD H p4 (is.map Ins.d) ∧
  (∀ i ∈ is, i.ok = true) ∧ (is.map Ins.nm).Nodup ∧ is.length ≤ 1000 ∧ ∀ H', Bt y H H' → BookAt K H' y r is → Q .non H'
theorem ok_Book_init (T : Tz P w K mg) : Mak P w K mg base 13 "Book" (C_Book K) (sp_Book_init K) [] := by
  have c_wrong_book : Cal P w K mg base 12 "wrong_book" sp_wrong_book [] := ok_wrong_book T
  refine mk_Book_init T.toTx len6 fun f cdv A outer s H vs Q E hr h => ?_
  obtain ⟨_, _, _, _, _, _, rfl, y, dx, r, p1, p2, p3, p4, is, rfl, hy, rfl, hr1, rfl, rfl, rfl, rfl, h1, h2, h3, h4, ho, hn, hz, k⟩ := h
  refine ⟨_, (pss_cons (ps_set (i := 6) sc_Book_init.nd rfl (Or.inl rfl) (pe_c c_wrong_book hr (by first | decide | omega) rfl (pa_cons (pv 1) (pa_cons (pv 2) (pa_cons (pv 3) (pa_cons (pv 4) (pa_cons (pv 5) pa_nil)))))))
    (pss_cons (ps_if (pt_cmpR op_notN (pv 6) pe_non (nomark _)) pss_never pss_nil)
    (pss_cons (ps_fld (pv 0) (pv 1) rfl)
    (pss_cons (ps_fld (pv 0) (pe_callTy call_tuple_of (by rfl) T.b_tuple boot_tuple (pa_cons (pv 2) pa_nil)) rfl)
    (pss_cons (ps_fld (pv 0) (pe_callTy call_tuple_of (by rfl) T.b_tuple boot_tuple (pa_cons (pv 3) pa_nil)) rfl)
    (pss_cons (ps_fld (pv 0) (pe_callTy call_tuple_of (by rfl) T.b_tuple boot_tuple (pa_cons (pv 4) pa_nil)) rfl)
    (pss_one (ps_fld (pv 0) (pe_callTy call_tuple_of (by rfl) T.b_tuple boot_tuple (pa_cons (pv 5) pa_nil)) rfl)))))))), ?_⟩
  refine ⟨_, rfl, _, rfl, _, rfl, _, rfl, _, rfl, _, _, _, _, _, rfl, r, p1, p2, p3, p4, is, rfl, hr1, rfl, rfl, rfl, rfl, h1, h2, h3, h4, ho, hn, hz, fun H1 m1 => ?_⟩
  refine ⟨_, rfl, rfl, _, rfl, iteF ?_⟩
  have hy1 := m1 _ _ hy
  refine ⟨_, rfl, _, rfl, y, _, dx, _, rfl, hy1, T.c_Book, T.n_Book_width, by simp, ?_⟩
  generalize hH : upd H1 y _ = H2
  have b2 : Bt y H H2 := (Bt.of m1).trans (hH ▸ .put)
  have e2 : H2 y = some (.ins (C_Book K) dx [("width", .int r)]) := by rw [← hH]; exact upd_same
  clear hH
  have np1 : p1 ≠ y := fun z => by obtain ⟨_, q, _⟩ := h1; rw [z, hy] at q; cases q
  have np2 : p2 ≠ y := fun z => by rw [z, hy] at h2; cases h2
  have np3 : p3 ≠ y := fun z => by rw [z, hy] at h3; cases h3
  have np4 : p4 ≠ y := fun z => by obtain ⟨_, q, _⟩ := h4; rw [z, hy] at q; cases q
  have hyt : ∀ xs, HO.ins (C_Book K) dx [] ≠ .tup xs := fun xs z => by cases z
  obtain ⟨us1, q1, t1⟩ := h1
  obtain ⟨us4, q4, t4⟩ := h4
  -- self.pairs
  refine ⟨_, rfl, p1, us1, rfl, .inl ⟨.inl (.inl (b2 _ _ np1 q1)), fun a1 ha1 => ?_⟩⟩
  have m3 := Same.new (o := .tup us1) ha1
  have ea1 : (upd H2 a1 (.tup us1)) a1 = some (.tup us1) := upd_same
  generalize upd H2 a1 (.tup us1) = H3 at m3 ea1 ⊢
  refine ⟨_, rfl, y, _, dx, _, rfl, m3 _ _ e2, T.c_Book, T.n_Book_pairs, by simp, ?_⟩
  generalize hH : upd H3 y _ = H4
  have b4 : Bt y H3 H4 := hH ▸ .put
  have e4 : H4 y = some (.ins (C_Book K) dx [("width", .int r), ("pairs", .ref a1)]) := by rw [← hH]; exact upd_same
  clear hH
  have n1 : a1 ≠ y := fun z => by rw [z, m3 _ _ e2] at ea1; cases ea1
  have b5 := (b2.trans (.of m3)).trans b4
  have fa1 := b4 _ _ n1 ea1
  -- self.own
  refine ⟨_, rfl, p2, _, rfl, .inl ⟨.inl (.inl (b5 _ _ np2 h2)), fun a2 ha2 => ?_⟩⟩
  have m5 := Same.new (o := .tup (kCAUSES.map V.str)) ha2
  have ea2 : (upd H4 a2 (.tup (kCAUSES.map V.str))) a2 = some (.tup (kCAUSES.map V.str)) := upd_same
  generalize upd H4 a2 (.tup (kCAUSES.map V.str)) = H5 at m5 ea2 ⊢
  refine ⟨_, rfl, y, _, dx, _, rfl, m5 _ _ e4, T.c_Book, T.n_Book_own, by simp, ?_⟩
  generalize hH : upd H5 y _ = H6
  have b6 : Bt y H5 H6 := hH ▸ .put
  have e6 : H6 y = some (.ins (C_Book K) dx [("width", .int r), ("pairs", .ref a1), ("own", .ref a2)]) := by rw [← hH]; exact upd_same
  clear hH
  have n2 : a2 ≠ y := fun z => by rw [z, m5 _ _ e4] at ea2; cases ea2
  have b7 := (b5.trans (.of m5)).trans b6
  have fa2 := b6 _ _ n2 ea2
  have ga1 := b6 _ _ n1 (m5 _ _ fa1)
  -- self.doors
  refine ⟨_, rfl, p3, _, rfl, .inl ⟨.inl (.inl (b7 _ _ np3 h3)), fun a3 ha3 => ?_⟩⟩
  have m7 := Same.new (o := .tup (kPORTS.map V.str)) ha3
  have ea3 : (upd H6 a3 (.tup (kPORTS.map V.str))) a3 = some (.tup (kPORTS.map V.str)) := upd_same
  generalize upd H6 a3 (.tup (kPORTS.map V.str)) = H7 at m7 ea3 ⊢
  refine ⟨_, rfl, y, _, dx, _, rfl, m7 _ _ e6, T.c_Book, T.n_Book_doors, by simp, ?_⟩
  generalize hH : upd H7 y _ = H8
  have b8 : Bt y H7 H8 := hH ▸ .put
  have e8 : H8 y = some (.ins (C_Book K) dx [("width", .int r), ("pairs", .ref a1), ("own", .ref a2), ("doors", .ref a3)]) := by rw [← hH]; exact upd_same
  clear hH
  have n3 : a3 ≠ y := fun z => by rw [z, m7 _ _ e6] at ea3; cases ea3
  have b9 := (b7.trans (.of m7)).trans b8
  have fa3 := b8 _ _ n3 ea3
  have ga2 := b8 _ _ n2 (m7 _ _ fa2)
  have ja1 := b8 _ _ n1 (m7 _ _ ga1)
  -- self.held
  refine ⟨_, rfl, p4, us4, rfl, .inl ⟨.inl (.inl (b9 _ _ np4 q4)), fun a4 ha4 => ?_⟩⟩
  have m9 := Same.new (o := .tup us4) ha4
  have ea4 : (upd H8 a4 (.tup us4)) a4 = some (.tup us4) := upd_same
  generalize upd H8 a4 (.tup us4) = H9 at m9 ea4 ⊢
  refine ⟨_, rfl, y, _, dx, _, rfl, m9 _ _ e8, T.c_Book, T.n_Book_held, by simp, ?_⟩
  have n4 : a4 ≠ y := fun z => by rw [z, m9 _ _ e8] at ea4; cases ea4
  have b10 := (b9.trans (.of m9)).trans (Bt.put (x := y) (H := H9) (o := .ins (C_Book K) dx [("width", .int r), ("pairs", .ref a1), ("own", .ref a2), ("doors", .ref a3), ("held", .ref a4)]))
  have tt := b10.tps hy hyt
  refine k _ b10 ⟨dx, a1, a2, a3, a4, upd_same, .t ((upd_ne n1).trans (m9 _ _ ja1)) (t1.mono tt), .t ((upd_ne n2).trans (m9 _ _ ga2)) (.of_strs _), .t ((upd_ne n3).trans (m9 _ _ fa3)) (.of_strs _), .t ((upd_ne n4).trans ea4) (t4.mono tt)⟩
end
end W73
set_option Elab.async false
set_option linter.all false
set_option maxRecDepth 100000
set_option maxHeartbeats 4000000
namespace W73
open PySem PySem.Spec PyProof.Rows L2
open C8 (Cal Met Mak pe_c pe_mk pe_mt pe_mt0 pe_gc pss_cut tCut)
section
variable {P : Program} {w : World} {K : PySem.W.Frag} {mg : Str → Option Value} {base : Heap}
def sp_Book_registers (K : PySem.W.Frag) : Sp := sp1 fun a H Q => ∃ b r is, a = .ref b ∧ BookAt K H b r is ∧ Q (.int r) H
theorem ok_Book_registers (T : Tz P w K mg) : Met P w K mg base 1 (C_Book K) "registers" (sp_Book_registers K) [] := by
  refine mk_Book_registers T.toTx len1 fun f cdv A outer s H vs Q E hr h => ?_
  obtain ⟨_, rfl, b, r, is, rfl, ⟨dx, a1, a2, a3, a4, hb, h1, h2, h3, h4⟩, k⟩ := h
  refine ⟨_, (pss_one (ps_ret (pe_fld (pv 0) rfl))), ?_⟩
  exact ⟨_, rfl, b, _, dx, _, _, rfl, hb, T.c_Book, T.n_Book_width, rfl, k⟩
def sp_Book_primitives (K : PySem.W.Frag) : Sp := sp1 fun a H Q => ∃ b r is, a = .ref b ∧ BookAt K H b r is ∧ ∀ l H', Same H H' → H l = none → LD H' l (kPRIMS.map pD) → Q (.ref l) H'
theorem ok_Book_primitives (T : Tz P w K mg) : Met P w K mg base 1 (C_Book K) "primitives" (sp_Book_primitives K) [] := by
  refine mk_Book_primitives T.toTx len1 fun f cdv A outer s H vs Q E hr h => ?_
  obtain ⟨_, rfl, b, r, is, rfl, ⟨dx, a1, a2, a3, a4, hb, h1, h2, h3, h4⟩, k⟩ := h
  obtain ⟨_, us, e, ha, ts⟩ := h1.tup
  cases e
  refine ⟨_, (pss_one (ps_ret (pe_callTy call_list_of (by rfl) T.b_list boot_list (pa_cons (pe_fld (pv 0) rfl) pa_nil)))), ?_⟩
  exact ⟨_, rfl, b, _, dx, _, _, rfl, hb, T.c_Book, T.n_Book_pairs, rfl, _, _, rfl, .inr (.inl (.inl ha)), fun l hl => k l _ (Same.new hl) hl ⟨us, upd_same, ts.mono (.new hl)⟩⟩
def sp_Book_causes (K : PySem.W.Frag) : Sp := sp1 fun a H Q => ∃ b r is, a = .ref b ∧ BookAt K H b r is ∧ ∀ l H', Same H H' → H l = none → H' l = some (.lst (kCAUSES.map V.str)) → Q (.ref l) H'
theorem ok_Book_causes (T : Tz P w K mg) : Met P w K mg base 1 (C_Book K) "causes" (sp_Book_causes K) [] := by
  refine mk_Book_causes T.toTx len1 fun f cdv A outer s H vs Q E hr h => ?_
  obtain ⟨_, rfl, b, r, is, rfl, ⟨dx, a1, a2, a3, a4, hb, h1, h2, h3, h4⟩, k⟩ := h
  obtain ⟨_, us, e, ha, ts⟩ := h2.tup
  cases e
  cases ts.strs
  refine ⟨_, (pss_one (ps_ret (pe_callTy call_list_of (by rfl) T.b_list boot_list (pa_cons (pe_fld (pv 0) rfl) pa_nil)))), ?_⟩
  exact ⟨_, rfl, b, _, dx, _, _, rfl, hb, T.c_Book, T.n_Book_own, rfl, _, _, rfl, .inr (.inl (.inl ha)), fun l hl => k l _ (Same.new hl) hl upd_same⟩
def sp_Book_ports (K : PySem.W.Frag) : Sp := sp1 fun a H Q => ∃ b r is, a = .ref b ∧ BookAt K H b r is ∧ ∀ l H', Same H H' → H l = none → H' l = some (.lst (kPORTS.map V.str)) → Q (.ref l) H'
theorem ok_Book_ports (T : Tz P w K mg) : Met P w K mg base 1 (C_Book K) "ports" (sp_Book_ports K) [] := by
  refine mk_Book_ports T.toTx len1 fun f cdv A outer s H vs Q E hr h => ?_
  obtain ⟨_, rfl, b, r, is, rfl, ⟨dx, a1, a2, a3, a4, hb, h1, h2, h3, h4⟩, k⟩ := h
  obtain ⟨_, us, e, ha, ts⟩ := h3.tup
  cases e
  cases ts.strs
  refine ⟨_, (pss_one (ps_ret (pe_callTy call_list_of (by rfl) T.b_list boot_list (pa_cons (pe_fld (pv 0) rfl) pa_nil)))), ?_⟩
  exact ⟨_, rfl, b, _, dx, _, _, rfl, hb, T.c_Book, T.n_Book_doors, rfl, _, _, rfl, .inr (.inl (.inl ha)), fun l hl => k l _ (Same.new hl) hl upd_same⟩
def sp_Book_instructions (K : PySem.W.Frag) : Sp := sp1 fun a H Q => ∃ b r is, a = .ref b ∧ BookAt K H b r is ∧ ∀ l H', Same H H' → H l = none → LD H' l (is.map Ins.d) → Q (.ref l) H'
theorem ok_Book_instructions (T : Tz P w K mg) : Met P w K mg base 1 (C_Book K) "instructions" (sp_Book_instructions K) [] := by
  refine mk_Book_instructions T.toTx len1 fun f cdv A outer s H vs Q E hr h => ?_
  obtain ⟨_, rfl, b, r, is, rfl, ⟨dx, a1, a2, a3, a4, hb, h1, h2, h3, h4⟩, k⟩ := h
  obtain ⟨_, us, e, ha, ts⟩ := h4.tup
  cases e
  refine ⟨_, (pss_one (ps_ret (pe_callTy call_list_of (by rfl) T.b_list boot_list (pa_cons (pe_fld (pv 0) rfl) pa_nil)))), ?_⟩
  exact ⟨_, rfl, b, _, dx, _, _, rfl, hb, T.c_Book, T.n_Book_held, rfl, _, _, rfl, .inr (.inl (.inl ha)), fun l hl => k l _ (Same.new hl) hl ⟨us, upd_same, ts.mono (.new hl)⟩⟩
def insOf (is : List Ins) (x : Str) : Option Ins := is.find? fun i => decide (i.nm = x)
def sp_Book_instruction (K : PySem.W.Frag) : Sp := sp2 fun a c H Q => ∃ b r is x i, a = .ref b ∧ BookAt K H b r is ∧ c = .str x ∧ insOf is x = some i ∧ ∀ v H', Same H H' → TD' H' i.d v → Q v H'
theorem ok_Book_instruction (T : Tz P w K mg) : Met P w K mg base 2 (C_Book K) "instruction" (sp_Book_instruction K) [] := by
  have c_is_known : Cal P w K mg base 1 "is_known" (sp_is_known K) [] := ok_is_known T
  refine mk_Book_instruction T.toTx len2 fun f cdv A outer s H vs Q E hr h => ?_
  obtain ⟨_, _, rfl, b, r, is, x, ins, rfl, ⟨dx, a1, a2, a3, a4, hb, h1, h2, h3, h4⟩, rfl, hi, k⟩ := h
  obtain ⟨_, us, e, ha, ts⟩ := h4.tup
  cases e
  have hl := ts.length
  rw [List.length_map] at hl
  refine ⟨_, (pss_cons (ps_for PassesOwn.never rfl (pi_tup (pe_fld (pv 0) rfl)) (pg_name (i := 2) sc_Book_instruction.nd rfl (Or.inl rfl)) (pss_one (ps_if (pt_val (pe_c c_is_known hr (by first | decide | omega) rfl (pa_cons (pv 1) (pa_cons (pe_slice sl_tup (pv 2) po_none (po_some pe_int)) pa_nil)))) (pss_one (ps_ret (pv 2))) pss_nil)))
    (pss_one ps_never)), ?_⟩
  refine ⟨_, rfl, b, _, dx, _, _, rfl, hb, T.c_Book, T.n_Book_held, rfl, a4, rfl, ⟨_, .inl (.inl ha)⟩, for_tup (xs := us) (fun i σ H2 => ∃ u, σ = [some (.ref b), some (.str x), u] ∧ Same H H2 ∧ ∀ j ∈ is.take i, j.nm ≠ x) ⟨_, rfl, Same.refl _, by simp⟩ ?_ ?_ ?_⟩
  · rintro i σ H2 _ ⟨_, _, m, _⟩
    exact .inl (.inl (m _ _ ha))
  · rintro i v σ H2 hv ⟨u, rfl, m, hn⟩
    obtain ⟨dd, hdd, td⟩ := TDs.get' (ts.mono (.of m)) hv
    have hlt : i < is.length := by rw [hl]; exact (List.getElem?_eq_some_iff.mp hv).1
    rw [List.getElem?_map, List.getElem?_eq_getElem hlt] at hdd
    cases hdd
    obtain ⟨a, v2, v3, rfl, ha2, t2, t3⟩ := Ins.cases td
    have td0 := td
    generalize hq : is[i] = q at ha2 t2 t3 td
    refine ⟨_, rfl, _, rfl, _, rfl, _, _, rfl, .inl (.inl ha2), by show ¬ (HT.sIx 4 0 none = 0 ∧ HT.sIx 4 4 (some 1) = 4); decide, fun p hp => ?_⟩
    have mp := Same.new (o := .tup [V.str q.nm]) hp
    have ep : (upd H2 p (.tup [V.str q.nm])) p = some (.tup ([q.nm].map V.str)) := upd_same
    refine ⟨_, _, rfl, x, rfl, .inl ⟨p, _, rfl, .inr (.inl (.inl ep)), rfl, flat_strs, ?_⟩⟩
    show ∃ k, V.bl (inV (.str x) ([q.nm].map V.str)) = .bl k ∧ _
    rw [inV_strs]
    refine ⟨_, rfl, ite2 (fun hx => ?_) fun hx => ?_⟩
    · have hx : x = q.nm := by simpa using hx
      have : insOf is x = some q := by
        unfold insOf
        rw [List.find?_eq_some_iff_append]
        refine ⟨by simp [hx], is.take i, is.drop (i + 1), ?_, fun j hj => by simpa using hn j hj⟩
        rw [← hq, ← List.drop_eq_getElem_cons hlt, List.take_append_drop]
      rw [hi] at this
      cases this
      exact ⟨_, rfl, k _ _ (m.trans mp) (td.mono (.of mp))⟩
    · have hx : ¬ q.nm = x := by simpa [eq_comm] using hx
      refine ⟨_, rfl, m.trans mp, fun j hj => ?_⟩
      rw [List.take_add_one, List.getElem?_eq_getElem hlt, hq] at hj
      rcases List.mem_append.mp hj with hj | hj
      · exact hn j hj
      · have : j = q := by simpa using hj
        rw [this]
        exact hx
  · rintro σ H2 ⟨u, rfl, m, hn⟩
    unfold insOf at hi
    have h1 := List.mem_of_find?_eq_some hi
    have h2 := List.find?_some hi
    rw [← hl, List.take_length] at hn
    exact absurd (by simpa using h2) (hn _ h1)
end
end W73
set_option Elab.async false
set_option linter.all false
set_option maxRecDepth 100000
set_option maxHeartbeats 4000000
namespace W73
open PySem PySem.Spec PyProof.Rows L2
open C8 (Cal Met Mak pe_c pe_mk pe_mt pe_mt0 pe_gc pss_cut tCut)
section
variable {P : Program} {w : World} {K : PySem.W.Frag} {mg : Str → Option Value} {base : Heap}
def sp_is_below : Sp := sp2 fun a b H Q => ∃ i m : Int, a = .int i ∧ b = .int m ∧ Q (.bl (decide (0 ≤ i) && decide (i < m))) H
theorem ok_is_below (T : Tz P w K mg) : Cal P w K mg base 2 "is_below" sp_is_below [] := by
  have c_is_count : Cal P w K mg base 1 "is_count" sp_is_count [] := ok_is_count T
  refine mk_is_below T.toTx len2 fun f cdv A outer s H vs Q E hr h => ?_
  obtain ⟨_, _, rfl, i, m, rfl, rfl, k⟩ := h
  refine ⟨_, (pss_one (ps_ret (pe_and (pe_c c_is_count hr (by first | decide | omega) rfl (pa_cons (pv 0) (pa_cons pe_int pa_nil))) (pe_one (pe_cmpR op_lt (pv 0) (pv 1) (nomark _)))))), ?_⟩
  refine ⟨_, rfl, _, _, rfl, _, _, rfl, rfl, _, rfl, ite2 (fun h0 => ?_) (fun h0 => ?_)⟩
  · refine ⟨_, rfl, _, rfl, _, _, rfl, rfl, ?_⟩
    rw [h0] at k
    exact k
  · rw [Bool.not_eq_true] at h0
    rw [h0] at k
    exact k
def sp_are_below : Sp := sp3 fun a b c H Q => ∃ (ns : List Int) (m : Int), TD' H (.t (ns.map D.i)) a ∧ b = .int ns.length ∧ c = .int m ∧ (∀ n ∈ ns, 0 ≤ n ∧ n < m) ∧ ns.length ≤ 1000 ∧ ∀ H', Same H H' → Q (.bl true) H'
theorem ok_are_below (T : Tz P w K mg) : Cal P w K mg base 3 "are_below" sp_are_below [] := by
  have c_is_below : Cal P w K mg base 2 "is_below" sp_is_below [] := ok_is_below T
  refine mk_are_below T.toTx len3 fun f cdv A outer s H vs Q E hr h => ?_
  obtain ⟨_, _, _, rfl, ns, m, td, rfl, rfl, hn, hl, k⟩ := h
  obtain ⟨a, us, rfl, ha, ts⟩ := td.tup
  cases ts.ints
  have hz := sizeL
  refine ⟨_, (pss_one (ps_ret (pe_and (pe_is T.b_isinstance T.b_tuple boot_tuple (pv 0)) (pe_and (pe_cmpR op_eq (pe_callB call_len_seq (by rfl) T.b_len PySem.boot_len (pa_cons (pv 0) pa_nil)) (pv 1) (nomark _)) (pe_one (pe_callB (cr_all rfl) (by rfl) T.b_all boot_all (pa_cons (pe_lc  (own := [("one", 3)]) (g := gName 3) (tt := tYes) rfl sc_are_below.nd (pi_tup (pv 0)) (blkOk_by (N := ["thing", "many", "most", "one"]) (sc := defScope s_are_below) (by decide +kernel)) (fun _ _ _ _ _ => (pg_name (i := 3) sc_are_below.nd rfl (Or.inl rfl))) (fun _ _ _ _ _ => pts_nil) (fun _ _ _ _ _ => (pe_c c_is_below hr (by first | decide | omega) rfl (pa_cons (pv 3) (pa_cons (pv 2) pa_nil))))) pa_nil))))))), ?_⟩
  refine ⟨_, rfl, _, _, _, _, rfl, .base (.tup ha), ki_tt, _, rfl, iteT ?_⟩
  refine ⟨_, rfl, _, _, rfl, .inr (.inl (.inl ha)), _, rfl, rfl, _, rfl, iP (by simp) ?_⟩
  refine ⟨_, rfl, a, rfl, ⟨_, .inl (.inl ha)⟩, fun D hD => ?_⟩
  refine lc_true (walk_tup (xs := ns.map V.int)) (by simp; omega) hD (fun _ m => .inl (.inl (m _ _ ha))) (fun i y H1 H2 R hi m1 y' hR => ?_) fun H1 m1 hl => ?_
  · obtain ⟨rfl, hy⟩ := y'
    rw [List.getElem?_map] at hy
    obtain ⟨n, hn2, rfl⟩ := Option.map_eq_some_iff.mp hy
    have q := hn n (List.mem_of_getElem? hn2)
    refine ⟨rfl, _, rfl, _, rfl, _, _, rfl, _, _, rfl, rfl, ?_⟩
    rw [decide_eq_true q.1, decide_eq_true q.2]
    exact hR _ (Same.refl _)
  · exact ⟨_, _, rfl, .inl (.inl hl), by simpa using k H1 m1⟩
/-- a table: keys of ar words, words as values -/
def OkT (ar : Nat) (wd : Int) (kvs : List (List Key × V)) : Prop := kvs.length ≤ 1000 ∧ ∀ p ∈ kvs, ∃ (ns : List Int) (m : Int), p = (ns.map Sum.inl, .int m) ∧ ns.length = ar ∧ (∀ n ∈ ns, 0 ≤ n ∧ n < wd) ∧ 0 ≤ m ∧ m < wd
theorem kV_ints : ∀ ns : List Int, ((ns.map Sum.inl : List Key).map kV) = ns.map V.int
  | [] => rfl
  | n :: ns => by
    rw [List.map_cons, List.map_cons, kV_ints]
    rfl
theorem valV_some {κ : Type} [DecidableEq κ] {kvs : List (κ × V)} {k : κ} {v : V} (h : (k, v) ∈ kvs) : ∃ v', valV kvs k = some v' ∧ (k, v') ∈ kvs := by
  cases e : valV kvs k with
  | none =>
    have := valV_any k kvs
    rw [e] at this
    have h2 : (kvs.any fun kv => decide (kv.1 = k)) = true := List.any_eq_true.mpr ⟨_, h, by simp⟩
    rw [h2] at this
    cases this
  | some v' => exact ⟨v', rfl, valV_mem e⟩
def sp_is_table : Sp := sp3 fun a b c H Q => ∃ (d : Addr) (kvs : List (List Key × V)) (ar : Nat) (wd : Int), a = .ref d ∧ H d = some (.dT kvs) ∧ b = .int ar ∧ c = .int wd ∧ ar ≤ 1000 ∧ OkT ar wd kvs ∧ ∀ H', Same H H' → Q (.bl true) H'
theorem ok_is_table (T : Tz P w K mg) : Cal P w K mg base 4 "is_table" sp_is_table [] := by
  have c_is_below : Cal P w K mg base 2 "is_below" sp_is_below [] := ok_is_below T
  have c_are_below : Cal P w K mg base 3 "are_below" sp_are_below [] := ok_are_below T
  refine mk_is_table T.toTx len3 fun f cdv A outer s H vs Q E hr h => ?_
  obtain ⟨_, _, _, rfl, d, kvs, ar, wd, rfl, hd, rfl, rfl, har, ⟨hl, ho⟩, k⟩ := h
  have hu := hu_of hr
  have hz := sizeL
  refine ⟨_, (pss_cons (ps_if (pt_not (pt_val (pe_is T.b_isinstance T.b_dict boot_dict (pv 0)))) pss_never pss_nil)
    (pss_one (ps_ret (pe_callB (cr_all rfl) (by rfl) T.b_all boot_all (pa_cons (pe_lock (pe_lc  (own := [("args", 3)]) (g := gName 3) (tt := tYes) rfl sc_is_table.nd (pi_keys (pv 0)) (blkOk_by (N := ["thing", "arity", "words", "args"]) (sc := defScope s_is_table) (by decide +kernel)) (fun _ _ _ _ _ => (pg_name (i := 3) sc_is_table.nd rfl (Or.inl rfl))) (fun _ _ _ _ _ => pts_nil) (fun _ _ _ _ _ => (pe_and (pe_c c_are_below hr (by first | decide | omega) rfl (pa_cons (pv 3) (pa_cons (pv 1) (pa_cons (pv 2) pa_nil)))) (pe_one (pe_c c_is_below hr (by first | decide | omega) rfl (pa_cons (pe_dget hu (pv 0) (pv 3) (fun _ _ => rfl)) (pa_cons (pv 2) pa_nil)))))))) pa_nil))))), ?_⟩
  refine ⟨_, rfl, _, _, _, _, rfl, .base (.dT hd), ki_dd, _, rfl, iteF ?_⟩
  refine ⟨d, _, hd, trivial, fun od => ?_⟩
  have ed : (upd H d (.frz od (.dT kvs))) d = some (.frz od (.dT kvs)) := upd_same
  have hf : ∀ H', Same (upd H d (.frz od (.dT kvs))) H' → Same H (upd H' d (.dT kvs)) := fun H' m => Same.unlock hd m
  have tf : Tps H (upd H d (.frz od (.dT kvs))) := Tps.put hd fun _ z => by cases z
  generalize upd H d (.frz od (.dT kvs)) = H1 at ed hf tf ⊢
  refine ⟨_, rfl, d, od, rfl, .inr ⟨kvs, ed, fun D hD => ?_⟩⟩
  refine lc_true walk_keysT (by omega) hD (fun _ m => m _ _ ed) (fun i y H2 H3 R hi m1 y' hR => ?_) fun H2 m1 hl => ?_
  · obtain ⟨rfl, ks, v, q, hkv, rfl, hq⟩ := y'
    obtain ⟨ns, m, e, hn, hb, h0, h1⟩ := ho _ (List.mem_of_getElem? hkv)
    cases e
    rw [kV_ints] at hq
    refine ⟨rfl, _, rfl, _, rfl, _, rfl, _, _, _, rfl, ns, wd, .t hq (.of_ints ns), by rw [hn], rfl, hb, by omega, fun H4 m4 => ⟨_, rfl, iteT ?_⟩⟩
    obtain ⟨v', hv', hm'⟩ := valV_some (List.mem_of_getElem? hkv)
    obtain ⟨ns2, m2, e2, _, _, h2, h3⟩ := ho _ hm'
    obtain rfl : v' = .int m2 := (Prod.mk.inj e2).2
    refine ⟨_, rfl, _, rfl, d, .int m2, rfl, .inr ⟨kvs, _, q, .inr ⟨od, m4 _ _ (m1 _ _ ed)⟩, rfl, by rw [kV_ints]; exact m4 _ _ hq, hv'.symm⟩, _, rfl, _, _, rfl, m2, wd, rfl, rfl, ?_⟩
    rw [decide_eq_true h2, decide_eq_true h3]
    exact hR _ m4
  · have nd : D ≠ d := fun z => by rw [z, ed] at hD; cases hD
    exact ⟨m1 _ _ ed, _, _, rfl, .inl (.inl ((upd_ne nd).trans hl)), by simpa using k _ (hf _ m1)⟩
end
end W73
set_option Elab.async false
set_option linter.all false
set_option maxRecDepth 100000
set_option maxHeartbeats 4000000
namespace W73
open PySem PySem.Spec PyProof.Rows L2
open C8 (Cal Met Mak pe_c pe_mk pe_mt pe_mt0 pe_gc pss_cut tCut)
section
variable {P : Program} {w : World} {K : PySem.W.Frag} {mg : Str → Option Value} {base : Heap}
/-- dict(..) of the book's primitives -/
def arsK : List (Key × V) := [(Sum.inr "sum", .int 2), (Sum.inr "less", .int 1), (Sum.inr "unit", .int 0)]
theorem prims_paired {H : Hp} {us : List V} (ts : TDs H (kPRIMS.map pD) us) : ∃ ps : List Addr, us = ps.map V.ref ∧ Paired (fun p (kv : Key × V) => SqT K H p [kV kv.1, kv.2]) ps arsK := by
  have e : arsK = kPRIMS.map fun x => ((Sum.inr x.1 : Key), V.int x.2) := rfl
  rw [e]
  generalize kPRIMS = l at ts
  induction l generalizing us with
  | nil => cases ts; exact ⟨[], rfl, .nil⟩
  | cons x l ih =>
    cases ts with
    | cons a b =>
      obtain ⟨ps, e, q⟩ := ih b
      obtain ⟨p, vs, rfl, hp, t⟩ := a.tup
      cases t with
      | cons t1 t =>
      cases t with
      | cons t2 t =>
      cases t
      cases t1
      cases t2
      exact ⟨p :: ps, by rw [e]; rfl, .cons (.inl (.inl hp)) q⟩
def TabsAt (H : Hp) (a : Addr) (f : Str → List (List Key × V)) : Prop := ∃ d1 d2 d3, H a = some (.dK [(Sum.inr "sum", .ref d1), (Sum.inr "less", .ref d2), (Sum.inr "unit", .ref d3)]) ∧ H d1 = some (.dT (f "sum")) ∧ H d2 = some (.dT (f "less")) ∧ H d3 = some (.dT (f "unit"))
theorem TabsAt.same {H H' : Hp} {a : Addr} {f : Str → List (List Key × V)} (m : Same H H') : TabsAt H a f → TabsAt H' a f := fun ⟨d1, d2, d3, h, h1, h2, h3⟩ => ⟨d1, d2, d3, m _ _ h, m _ _ h1, m _ _ h2, m _ _ h3⟩
def OkTabs (wd : Int) (f : Str → List (List Key × V)) : Prop := OkT 2 wd (f "sum") ∧ OkT 1 wd (f "less") ∧ OkT 0 wd (f "unit")
def sp_are_tables (K : PySem.W.Frag) : Sp := sp3 fun a b c H Q => ∃ bk r is T f wd, a = .ref bk ∧ BookAt K H bk r is ∧ b = .ref T ∧ TabsAt H T f ∧ c = .int wd ∧ OkTabs wd f ∧ ∀ H', Same H H' → Q (.bl true) H'
theorem ok_are_tables (T : Tz P w K mg) : Cal P w K mg base 5 "are_tables" (sp_are_tables K) [] := by
  have c_Book_primitives : Met P w K mg base 1 (C_Book K) "primitives" (sp_Book_primitives K) [] := ok_Book_primitives T
  have c_is_known : Cal P w K mg base 1 "is_known" (sp_is_known K) [] := ok_is_known T
  have c_is_table : Cal P w K mg base 4 "is_table" sp_is_table [] := ok_is_table T
  refine mk_are_tables T.toTx len3 fun f cdv A outer s H vs Q E hr h => ?_
  obtain ⟨_, _, _, rfl, bk, r, is, tb, g, wd, rfl, hb, rfl, ht, rfl, ⟨o1, o2, o3⟩, k⟩ := h
  have hu := hu_of hr
  have hz := sizeL
  refine ⟨_, (pss_cons (ps_set (i := 3) sc_are_tables.nd rfl (Or.inr rfl) (pe_callTy (call_dictP rfl) (by rfl) T.b_dict boot_dict (pa_cons (pe_mt0 c_Book_primitives hr (by first | decide | omega) (pv 0)) pa_nil)))
    (pss_cons (ps_if (pt_not (pt_val (pe_is T.b_isinstance T.b_dict boot_dict (pv 1)))) pss_never pss_nil)
    (pss_one (ps_ret (pe_callB (cr_all rfl) (by rfl) T.b_all boot_all (pa_cons (pe_lock (pe_lc  (own := [("name", 4)]) (g := gName 4) (tt := tYes) rfl sc_are_tables.nd (pi_keys (pv 1)) (blkOk_by (N := ["book", "thing", "words", "arities", "name"]) (sc := defScope s_are_tables) (by decide +kernel)) (fun _ _ _ _ _ => (pg_name (i := 4) sc_are_tables.nd rfl (Or.inl rfl))) (fun _ _ _ _ _ => pts_nil) (fun _ _ _ _ _ => (pe_and (pe_c c_is_known hr (by first | decide | omega) rfl (pa_cons (pv 4) (pa_cons (pv 3) pa_nil))) (pe_one (pe_c c_is_table hr (by first | decide | omega) rfl (pa_cons (pe_dget hu (pv 1) (pv 4) (fun _ _ => rfl)) (pa_cons (pe_dget hu (pv 3) (pv 4) (fun _ _ => rfl)) (pa_cons (pv 2) pa_nil))))))))) pa_nil)))))), ?_⟩
  have ⟨bdx, _, _, _, _, hbk, _⟩ := hb
  refine ⟨_, rfl, bk, bdx, _, rfl, hbk, rfl, _, rfl, bk, r, is, rfl, hb, fun l H1 m1 hl1 ⟨us, hl, ts⟩ => ?_⟩
  obtain ⟨ps, e, hp⟩ := prims_paired (K := K) ts
  subst e
  refine ⟨l, ps, arsK, rfl, .inl (.inl hl), hp, fun ar har => ?_⟩
  have m2 := m1.trans (Same.new (o := .dK (mergeK [] arsK)) har)
  have e2 : (upd H1 ar (.dK (mergeK [] arsK))) ar = some (.dK arsK) := upd_same
  generalize upd H1 ar (.dK (mergeK [] arsK)) = H2 at m2 e2 ⊢
  obtain ⟨d1, d2, d3, h0, h1, h2, h3⟩ := ht.same m2
  refine ⟨_, rfl, _, _, _, _, rfl, .base (.dK h0), ki_dd, _, rfl, iteF ?_⟩
  refine ⟨tb, _, h0, trivial, fun od => ?_⟩
  generalize hkv : ([(Sum.inr "sum", .ref d1), (Sum.inr "less", .ref d2), (Sum.inr "unit", .ref d3)] : List (Key × V)) = kvs at h0 ⊢
  have ed : (upd H2 tb (.frz od (.dK kvs))) tb = some (.frz od (.dK kvs)) := upd_same
  have hf : ∀ H', Same (upd H2 tb (.frz od (.dK kvs))) H' → Same H2 (upd H' tb (.dK kvs)) := fun H' m => Same.unlock h0 m
  have nf : ∀ b u, H2 b = some u → (∀ z, u ≠ .dK z) → (upd H2 tb (.frz od (.dK kvs))) b = some u := fun b u e n => (upd_ne (fun z => by rw [z, h0] at e; cases e; exact n _ rfl)).trans e
  have nar : ar ≠ tb := fun z => by rw [z, h0, ← hkv] at e2; cases e2
  have ear : (upd H2 tb (.frz od (.dK kvs))) ar = some (.dK arsK) := (upd_ne nar).trans e2
  have g1 := nf _ _ h1 fun _ z => by cases z
  have g2 := nf _ _ h2 fun _ z => by cases z
  have g3 := nf _ _ h3 fun _ z => by cases z
  generalize upd H2 tb (.frz od (.dK kvs)) = H3 at ed hf ear g1 g2 g3 ⊢
  refine ⟨_, rfl, tb, od, rfl, .inl ⟨kvs, ed, fun D hD => ?_⟩⟩
  refine lc_true walk_keys (by rw [← hkv]; show 3 ≤ sizeLine; omega) hD (fun _ m => m _ _ ed) (fun i y H4 H5 R hi m3 y' hR => ?_) fun H4 m3 hl => ?_
  · obtain ⟨rfl, ky, v, hkv2, rfl⟩ := y'
    obtain ⟨x, d, n, rfl, q1, q2, q3, q4, q5⟩ : ∃ (x : Str) (d : Addr) (n : Nat), ky = Sum.inr x ∧ valV kvs (Sum.inr x) = some (.ref d) ∧ valV arsK (Sum.inr x) = some (.int n) ∧ H3 d = some (.dT (g x)) ∧ OkT n wd (g x) ∧ n ≤ 2 := by
      subst hkv
      match i, hkv2 with
      | 0, e => cases e; exact ⟨"sum", d1, 2, rfl, rfl, rfl, g1, o1, by decide⟩
      | 1, e => cases e; exact ⟨"less", d2, 1, rfl, rfl, rfl, g2, o2, by decide⟩
      | 2, e => cases e; exact ⟨"unit", d3, 0, rfl, rfl, rfl, g3, o3, by decide⟩
      | i + 3, e => simp at e
    refine ⟨rfl, _, rfl, _, rfl, _, _, rfl, x, rfl, .inr ⟨ar, _, rfl, DGet.k (k := Sum.inr x) (m3 _ _ ear), ?_⟩⟩
    rw [q2]
    refine ⟨_, rfl, iteT ?_⟩
    exact ⟨_, rfl, _, rfl, tb, .ref d, rfl, .inl ⟨kvs, Sum.inr x, .inr ⟨od, m3 _ _ ed⟩, rfl, q1.symm⟩, _, rfl, _, rfl, ar, .int n, rfl, .inl ⟨_, Sum.inr x, .inl (m3 _ _ ear), rfl, q2.symm⟩, _, rfl, _, _, _, rfl, d, _, n, wd, rfl, m3 _ _ q3, rfl, rfl, by omega, q4, fun H6 m6 => hR _ m6⟩
  · have nd : D ≠ tb := fun z => by rw [z, ed] at hD; cases hD
    exact ⟨m3 _ _ ed, _, _, rfl, .inl (.inl ((upd_ne nd).trans hl)), by simpa using k _ (m2.trans (hf _ m3))⟩
def sp_is_entry : Sp := sp1 fun a H Q => ∃ (n : Int) (x y : Str), TD' H (.t [.i n, .s x, .s y]) a ∧ 0 ≤ n ∧ x ∈ (["all", "system"] : List Str) ∧ y ∈ kRIGHTS ∧ ∀ H', Same H H' → Q (.bl true) H'
theorem ok_is_entry (T : Tz P w K mg) : Cal P w K mg base 2 "is_entry" sp_is_entry [] := by
  have c_is_count : Cal P w K mg base 1 "is_count" sp_is_count [] := ok_is_count T
  have c_is_known : Cal P w K mg base 1 "is_known" (sp_is_known K) [] := ok_is_known T
  refine mk_is_entry T.toTx len1 fun f cdv A outer s H vs Q E hr h => ?_
  obtain ⟨_, rfl, n, x, y, td, h0, hx, hy, k⟩ := h
  obtain ⟨a, us, rfl, ha, ts⟩ := td.tup
  cases ts with
  | cons t1 ts =>
  cases ts with
  | cons t2 ts =>
  cases ts with
  | cons t3 ts =>
  cases ts
  cases t1
  cases t2
  cases t3
  refine ⟨_, (pss_cons (ps_if (PW.pt (pw_or (pt_not (pt_val (pe_is T.b_isinstance T.b_tuple boot_tuple (pv 0)))) (pw_or (pt_cmpR op_ne (pe_callB call_len_seq (by rfl) T.b_len PySem.boot_len (pa_cons (pv 0) pa_nil)) pe_int (nomark _)) (pw_or1 (pt_not (pt_val (pe_c c_is_count hr (by first | decide | omega) rfl (pa_cons (pe_ix ix_tup (pv 0) pe_int (fun _ _ => rfl)) (pa_cons pe_int pa_nil))))))))) pss_never pss_nil)
    (pss_one (ps_ret (pe_and (pe_c c_is_known hr (by first | decide | omega) rfl (pa_cons (pe_ix ix_tup (pv 0) pe_int (fun _ _ => rfl)) (pa_cons (pe_tup (pa_cons pe_str (pa_cons pe_str pa_nil))) pa_nil))) (pe_one (pe_c c_is_known hr (by first | decide | omega) rfl (pa_cons (pe_ix ix_tup (pv 0) pe_int (fun _ _ => rfl)) (pa_cons (pe_gc rfl T.k_RIGHTS) pa_nil)))))))), ?_⟩
  refine ⟨_, rfl, _, _, _, _, rfl, .base (.tup ha), ki_tt, _, rfl, iteF ?_⟩
  refine ⟨_, rfl, _, _, rfl, .inr (.inl (.inl ha)), rfl, _, rfl, iteF ?_⟩
  refine ⟨_, rfl, _, _, _, _, rfl, rfl, .inl (.inl ha), rfl, _, _, rfl, _, _, rfl, rfl, _, rfl, iN (by simpa using h0) ?_⟩
  refine ⟨_, rfl, _, _, _, _, rfl, rfl, .inl (.inl ha), rfl, by show 2 ≤ sizeLine; decide, fun t ht => ⟨_, _, rfl, x, rfl, .inl ⟨t, _, rfl, .inr (.inl (.inl upd_same)), rfl, rfl, ?_⟩⟩⟩
  have m1 := Same.new (o := .tup [.str "all", .str "system"]) ht
  generalize upd H t (.tup [.str "all", .str "system"]) = H1 at m1 ⊢
  show ∃ c, V.bl (inV (.str x) ((["all", "system"] : List Str).map V.str)) = .bl c ∧ _
  rw [inV_strs, decide_eq_true hx]
  refine ⟨_, rfl, iteT ?_⟩
  refine ⟨_, rfl, _, _, _, _, rfl, rfl, .inl (.inl (m1 _ _ ha)), rfl, _, _, rfl, y, rfl, .inl ⟨_, _, rfl, .inr (T.t_RIGHTS _), rfl, flat_strs, ?_⟩⟩
  show Q (.bl (inV _ _)) _
  rw [inV_strs, decide_eq_true hy]
  exact k _ m1
end
end W73
set_option Elab.async false
set_option linter.all false
set_option maxRecDepth 100000
set_option maxHeartbeats 4000000
namespace W73
open PySem PySem.Spec PyProof.Rows L2
open C8 (Cal Met Mak pe_c pe_mk pe_mt pe_mt0 pe_gc pss_cut tCut)
section
variable {P : Program} {w : World} {K : PySem.W.Frag} {mg : Str → Option Value} {base : Heap}
theorem BookAt.bt {H H' : Hp} {d b : Addr} {r : Int} {is : List Ins} {kvs : List (Key × V)} (m : Bt d H H') (hd : H d = some (.dK kvs)) : BookAt K H b r is → BookAt K H' b r is := fun ⟨dx, a1, a2, a3, a4, h, h1, h2, h3, h4⟩ =>
  have t : Tps H H' := m.tps hd fun _ z => by cases z
  ⟨dx, a1, a2, a3, a4, m _ _ (fun z => by rw [z, hd] at h; cases h) h, h1.mono t, h2.mono t, h3.mono t, h4.mono t⟩
/-- the instructions of a book -/
structure GoodIs (is : List Ins) : Prop where
  ok : ∀ i ∈ is, i.ok = true
  nd : (is.map Ins.nm).Nodup
  le : is.length ≤ 1000
theorem ops_look {x : Str} : ∀ {is : List Ins}, valV (is.map fun i => ((Sum.inr i.nm : Key), V.int i.n)) (Sum.inr x) = (insOf is x).map fun i => V.int i.n
  | [] => rfl
  | i :: is => by
    rw [List.map_cons]
    by_cases h : i.nm = x
    · rw [valV_pos (by rw [h])]
      unfold insOf
      rw [List.find?_cons_of_pos (by simpa using h)]
      rfl
    · rw [valV_neg (by intro z; exact h (Sum.inr.inj z)), ops_look]
      unfold insOf
      rw [List.find?_cons_of_neg (by simpa using h)]
def sp_is_code (K : PySem.W.Frag) : Sp := sp2 fun a b H Q => ∃ bk r is x ins, ∃ ns : List Int, a = .ref bk ∧ BookAt K H bk r is ∧ GoodIs is ∧ TD' H (.t [.s x, .t (ns.map D.i)]) b ∧ insOf is x = some ins ∧ ns.length = ins.n ∧ (∀ n ∈ ns, 0 ≤ n ∧ n < r) ∧ ∀ H', Same H H' → Q (.bl true) H'
theorem ok_is_code (T : Tz P w K mg) : Cal P w K mg base 4 "is_code" (sp_is_code K) [] := by
  have c_Book_instructions : Met P w K mg base 1 (C_Book K) "instructions" (sp_Book_instructions K) [] := ok_Book_instructions T
  have c_Book_registers : Met P w K mg base 1 (C_Book K) "registers" (sp_Book_registers K) [] := ok_Book_registers T
  have c_is_known : Cal P w K mg base 1 "is_known" (sp_is_known K) [] := ok_is_known T
  have c_are_below : Cal P w K mg base 3 "are_below" sp_are_below [] := ok_are_below T
  refine mk_is_code T.toTx len2 fun f cdv A outer s H vs Q E hr h => ?_
  obtain ⟨_, _, rfl, bk, r, is, x, ins, ns, rfl, hb, gi, td, hx, hn, hr2, k⟩ := h
  have hu := hu_of hr
  have hz := sizeL
  obtain ⟨a, us, rfl, ha, ts⟩ := td.tup
  cases ts with
  | cons t1 ts =>
  cases ts with
  | cons t2 ts =>
  cases ts
  cases t1
  have ⟨bdx, _, _, _, _, hbk, _⟩ := hb
  have hin3 : ins.n ≤ 3 := by
    have := gi.ok ins (List.mem_of_find?_eq_some hx)
    simp only [Ins.ok, Bool.and_eq_true, decide_eq_true_eq] at this
    exact this.1.1.2
  refine ⟨_, (pss_cons (ps_setDq (i := 2)  (own := [("row", 3)]) (g := gName 3) (tt := tYes) false hu (by rfl) sc_is_code.nd rfl rfl (swD_true rfl rfl rfl (by decide +kernel)) (pi_list (pe_mt0 c_Book_instructions hr (by first | decide | omega) (pv 0))) (blkOk_by (N := ["book", "thing", "operands", "row"]) (sc := defScope s_is_code) (by decide +kernel)) (fun _ _ _ _ _ => (pg_name (i := 3) sc_is_code.nd rfl (Or.inl rfl))) (fun _ _ _ _ _ => pts_nil) (fun _ _ _ _ _ => (pe_ix ix_tupH (pv 3) pe_int (fun _ _ => rfl))) (fun _ _ _ _ _ => (pe_ix ix_tupH (pv 3) pe_int (fun _ _ => rfl))))
    (pss_cons (ps_if (PW.pt (pw_or (pt_not (pt_val (pe_is T.b_isinstance T.b_tuple boot_tuple (pv 1)))) (pw_or (pt_cmpR op_ne (pe_callB call_len_seq (by rfl) T.b_len PySem.boot_len (pa_cons (pv 1) pa_nil)) pe_int (nomark _)) (pw_or1 (pt_not (pt_val (pe_c c_is_known hr (by first | decide | omega) rfl (pa_cons (pe_ix ix_tup (pv 1) pe_int (fun _ _ => rfl)) (pa_cons (pv 2) pa_nil))))))))) pss_never pss_nil)
    (pss_one (ps_ret (pe_c c_are_below hr (by first | decide | omega) rfl (pa_cons (pe_ix ix_tup (pv 1) pe_int (fun _ _ => rfl)) (pa_cons (pe_dget hu (pv 2) (pe_ix ix_tup (pv 1) pe_int (fun _ _ => rfl)) (fun _ _ => rfl)) (pa_cons (pe_mt0 c_Book_registers hr (by first | decide | omega) (pv 0)) pa_nil)))))))), ?_⟩
  refine ⟨_, rfl, bk, bdx, _, rfl, hbk, rfl, _, rfl, bk, r, is, rfl, hb, fun l H1 m1 hl1 ⟨ws, hl, tw⟩ => ⟨l, rfl, ⟨_, .inl (.inl hl)⟩, fun D hD => ?_⟩⟩
  have lw := tw.length
  rw [List.length_map] at lw
  refine dq_it (walk_list (xs := ws)) (fun i H' => Same H1 H' ∧ H' D = some (.dK ((is.take i).map fun j => (Sum.inr j.nm, V.int j.n)))) ⟨Same.new hD, upd_same⟩ (fun i H' _ h => .inl (.inl (h.1 _ _ hl))) (fun i y H' H2 hi ⟨m, e⟩ y' => ?_) fun H2 ⟨m, e⟩ => ?_
  · obtain ⟨rfl, hy⟩ := y'
    obtain ⟨dd, hdd, tdd⟩ := TDs.get' (tw.mono (.of m)) hy
    have hlt : i < is.length := by omega
    rw [List.getElem?_map, List.getElem?_eq_getElem hlt] at hdd
    cases hdd
    have hk : (is.map Ins.nm)[i]'(by simpa using hlt) = is[i].nm := by simp
    have hti : is.take (i + 1) = is.take i ++ [is[i]] := by rw [List.take_add_one, List.getElem?_eq_getElem hlt]; rfl
    generalize is[i] = q at tdd hk hti
    obtain ⟨a2, v2, v3, rfl, ha2, _⟩ := Ins.cases tdd
    have hv : valV ((is.take i).map fun j => ((Sum.inr j.nm : Key), V.int j.n)) (Sum.inr q.nm) = none := valV_none fun p hp => by
      obtain ⟨j, hj, rfl⟩ := List.mem_map.mp hp
      intro z
      have z := Sum.inr.inj z
      have q2 := take_notin gi.nd (i := i) (by simpa using hlt)
      rw [hk, ← List.map_take] at q2
      exact q2 (List.mem_map.mpr ⟨j, hj, z⟩)
    refine ⟨rfl, ?_⟩
    unfold tYes
    dsimp only
    rw [if_pos rfl]
    refine ⟨_, rfl, _, _, _, _, rfl, rfl, ha2, rfl, _, rfl, _, _, _, _, rfl, rfl, ha2, rfl, _, DPut.k (k := Sum.inr q.nm) e (by have := gi.le; simp; omega), Same.mut m hD, ?_⟩
    rw [upd_same, putK_new hv, hti, List.map_append]
    rfl
  · have e : H2 D = some (.dK (is.map fun j => (Sum.inr j.nm, V.int j.n))) := by
      rw [e, ← lw, List.take_length]
    have m2 := m1.trans m
    have ha2 := m2 _ _ ha
    have hv : valV (is.map fun j => ((Sum.inr j.nm : Key), V.int j.n)) (Sum.inr x) = some (.int ins.n) := by rw [ops_look, hx]; rfl
    refine ⟨_, rfl, _, _, _, _, rfl, .base (.tup ha2), ki_tt, _, rfl, iteF ?_⟩
    refine ⟨_, rfl, _, _, rfl, .inr (.inl (.inl ha2)), rfl, _, rfl, iteF ?_⟩
    refine ⟨_, rfl, _, _, _, _, rfl, rfl, .inl (.inl ha2), rfl, _, rfl, _, _, rfl, x, rfl, .inr ⟨D, _, rfl, DGet.k (k := Sum.inr x) e, ?_⟩⟩
    rw [hv]
    refine ⟨_, rfl, iteF ?_⟩
    refine ⟨_, rfl, _, _, _, _, rfl, rfl, .inl (.inl ha2), rfl, _, rfl, _, rfl, _, _, _, _, rfl, rfl, .inl (.inl ha2), rfl, D, .int ins.n, rfl, .inl ⟨_, Sum.inr x, .inl e, rfl, hv.symm⟩, ?_⟩
    refine ⟨_, rfl, bk, bdx, _, rfl, m2 _ _ hbk, rfl, _, rfl, bk, r, is, rfl, hb.same m2, _, _, _, rfl, ns, r, t2.mono (.of m2), by rw [hn], rfl, hr2, by omega, fun H3 m3 => k _ (m2.trans m3)⟩
end
end W73
set_option Elab.async false
set_option linter.all false
set_option maxRecDepth 100000
set_option maxHeartbeats 4000000
namespace W73
open PySem PySem.Spec PyProof.Rows L2
open C8 (Cal Met Mak pe_c pe_mk pe_mt pe_mt0 pe_gc pss_cut tCut)
section
variable {P : Program} {w : World} {K : PySem.W.Frag} {mg : Str → Option Value} {base : Heap}
def OkE (H : Hp) (wd : Int) (kvs : List (Key × V)) : Prop := kvs.length ≤ 1000 ∧ ∀ p ∈ kvs, ∃ (k n : Int) (x y : Str), p.1 = .inl k ∧ 0 ≤ k ∧ k < wd ∧ TD' H (.t [.i n, .s x, .s y]) p.2 ∧ 0 ≤ n ∧ x ∈ (["all", "system"] : List Str) ∧ y ∈ kRIGHTS
def OkC (H : Hp) (is : List Ins) (r wd : Int) (kvs : List (Key × V)) : Prop := kvs.length ≤ 1000 ∧ ∀ p ∈ kvs, ∃ (k : Int) (x : Str) (ns : List Int) (ins : Ins), p.1 = .inl k ∧ 0 ≤ k ∧ k < wd ∧ TD' H (.t [.s x, .t (ns.map D.i)]) p.2 ∧ insOf is x = some ins ∧ ns.length = ins.n ∧ ∀ n ∈ ns, 0 ≤ n ∧ n < r
theorem OkE.mono {H H' : Hp} {wd : Int} {kvs : List (Key × V)} (m : Tps H H') : OkE H wd kvs → OkE H' wd kvs := fun ⟨h, g⟩ => ⟨h, fun p hp => by
  obtain ⟨k, n, x, y, a, b, c, d, e⟩ := g p hp
  exact ⟨k, n, x, y, a, b, c, d.mono m, e⟩⟩
theorem OkC.mono {H H' : Hp} {is : List Ins} {r wd : Int} {kvs : List (Key × V)} (m : Tps H H') : OkC H is r wd kvs → OkC H' is r wd kvs := fun ⟨h, g⟩ => ⟨h, fun p hp => by
  obtain ⟨k, x, ns, i, a, b, c, d, e⟩ := g p hp
  exact ⟨k, x, ns, i, a, b, c, d.mono m, e⟩⟩
/-- what a meaning is made of -/
structure MIn (K : PySem.W.Frag) (H : Hp) (bk : Addr) (r : Int) (is : List Ins) (pl pg : Int) (tb : Addr) (g : Str → List (List Key × V)) (en : Addr) (ek : List (Key × V)) (co : Addr) (ck : List (Key × V)) : Prop where
  bo : BookAt K H bk r is
  gi : GoodIs is
  pl0 : 1 ≤ pl
  pl1 : pl ≤ 100
  pg0 : 1 ≤ pg
  pg1 : pg ≤ pl
  six : 6 ≤ pl * pg
  ta : TabsAt H tb g
  ot : OkTabs (pl * pg) g
  ea : H en = some (.dK ek)
  eo : OkE H (pl * pg) ek
  ca : H co = some (.dK ck)
  co_ : OkC H is r (pl * pg) ck
def sp_wrong_part (K : PySem.W.Frag) : Sp := sp6 fun a b c d e f H Q => ∃ bk r is pl pg tb g en ek co ck, a = .ref bk ∧ b = .int pl ∧ c = .int pg ∧ d = .ref tb ∧ e = .ref en ∧ f = .ref co ∧ MIn K H bk r is pl pg tb g en ek co ck ∧ ∀ H', Same H H' → Q .non H'
theorem ok_wrong_part (T : Tz P w K mg) : Cal P w K mg base 6 "wrong_part" (sp_wrong_part K) [] := by
  have c_is_count : Cal P w K mg base 1 "is_count" sp_is_count [] := ok_is_count T
  have c_is_below : Cal P w K mg base 2 "is_below" sp_is_below [] := ok_is_below T
  have c_is_entry : Cal P w K mg base 2 "is_entry" sp_is_entry [] := ok_is_entry T
  have c_is_code : Cal P w K mg base 4 "is_code" (sp_is_code K) [] := ok_is_code T
  have c_are_tables : Cal P w K mg base 5 "are_tables" (sp_are_tables K) [] := ok_are_tables T
  have c_Book_causes : Met P w K mg base 1 (C_Book K) "causes" (sp_Book_causes K) [] := ok_Book_causes T
  refine mk_wrong_part T.toTx len6 fun f cdv A outer s H vs Q E hr h => ?_
  obtain ⟨_, _, _, _, _, _, rfl, bk, r, is, pl, pg, tb, g, en, ek, co, ck, rfl, rfl, rfl, rfl, rfl, rfl, M, k⟩ := h
  have hu := hu_of hr
  have hz := sizeL
  have ⟨bdx, _, _, _, _, hbk, _⟩ := M.bo
  have h1 := M.pl0
  have h2 := M.pl1
  have h3 := M.pg0
  have h4 := M.pg1
  have h5 := M.six
  refine ⟨_, (pss_cons (ps_if (pt_not (pt_val (pe_c c_is_count hr (by first | decide | omega) rfl (pa_cons (pv 1) (pa_cons pe_int pa_nil))))) pss_never pss_nil)
    (pss_cons (ps_if (PW.pt (pw_or (pt_not (pt_val (pe_c c_is_count hr (by first | decide | omega) rfl (pa_cons (pv 2) (pa_cons pe_int pa_nil))))) (pw_or (pt_cmpR op_gt (pv 2) (pv 1) (nomark _)) (pw_or1 (pt_cmpR op_lt (pe_op op_mul (pv 1) (pv 2)) (pe_callB (call_max2 rfl) (by rfl) T.b_max boot_max (pa_cons pe_int (pa_cons (pe_op op_add (pe_callB call_len_seq (by rfl) T.b_len PySem.boot_len (pa_cons (pe_gc rfl T.k_COMMON) pa_nil)) (pe_callB call_len_seq (by rfl) T.b_len PySem.boot_len (pa_cons (pe_mt0 c_Book_causes hr (by first | decide | omega) (pv 0)) pa_nil))) pa_nil))) (nomark _)))))) pss_never pss_nil)
    (pss_cons (ps_set (i := 6) sc_wrong_part.nd rfl (Or.inr rfl) (pe_op op_mul (pv 1) (pv 2)))
    (pss_cons (ps_if (pt_not (pt_val (pe_c c_are_tables hr (by first | decide | omega) rfl (pa_cons (pv 0) (pa_cons (pv 3) (pa_cons (pv 6) pa_nil)))))) pss_never pss_nil)
    (pss_cons (ps_if (PW.pt (pw_or (pt_not (pt_val (pe_is T.b_isinstance T.b_dict boot_dict (pv 4)))) (pw_or1 (pt_not (pt_val (pe_callB (cr_all rfl) (by rfl) T.b_all boot_all (pa_cons (pe_lock (pe_lc  (own := [("one", 7)]) (g := gName 7) (tt := tYes) rfl sc_wrong_part.nd (pi_keys (pv 4)) (blkOk_by (N := ["book", "places", "pages", "tables", "entries", "code", "words", "one"]) (sc := defScope s_wrong_part) (by decide +kernel)) (fun _ _ _ _ _ => (pg_name (i := 7) sc_wrong_part.nd rfl (Or.inl rfl))) (fun _ _ _ _ _ => pts_nil) (fun _ _ _ _ _ => (pe_and (pe_c c_is_below hr (by first | decide | omega) rfl (pa_cons (pv 7) (pa_cons (pv 6) pa_nil))) (pe_one (pe_c c_is_entry hr (by first | decide | omega) rfl (pa_cons (pe_dget hu (pv 4) (pv 7) (fun _ _ => rfl)) pa_nil))))))) pa_nil))))))) pss_never pss_nil)
    (pss_cons (ps_if (PW.pt (pw_or (pt_not (pt_val (pe_is T.b_isinstance T.b_dict boot_dict (pv 5)))) (pw_or1 (pt_not (pt_val (pe_callB (cr_all rfl) (by rfl) T.b_all boot_all (pa_cons (pe_lock (pe_lc  (own := [("one", 7)]) (g := gName 7) (tt := tYes) rfl sc_wrong_part.nd (pi_keys (pv 5)) (blkOk_by (N := ["book", "places", "pages", "tables", "entries", "code", "words", "one"]) (sc := defScope s_wrong_part) (by decide +kernel)) (fun _ _ _ _ _ => (pg_name (i := 7) sc_wrong_part.nd rfl (Or.inl rfl))) (fun _ _ _ _ _ => pts_nil) (fun _ _ _ _ _ => (pe_and (pe_c c_is_below hr (by first | decide | omega) rfl (pa_cons (pv 7) (pa_cons (pv 6) pa_nil))) (pe_one (pe_c c_is_code hr (by first | decide | omega) rfl (pa_cons (pv 0) (pa_cons (pe_dget hu (pv 5) (pv 7) (fun _ _ => rfl)) pa_nil)))))))) pa_nil))))))) pss_never pss_nil)
    (pss_one (ps_ret pe_non)))))))), ?_⟩
  refine ⟨_, rfl, _, _, rfl, _, _, rfl, rfl, _, rfl, iN (by simp; omega) ?_⟩
  refine ⟨_, rfl, _, _, rfl, _, _, rfl, rfl, _, rfl, iN (by simp; omega) ?_⟩
  refine ⟨_, rfl, _, rfl, _, _, rfl, rfl, _, rfl, iN (by simp; omega) ?_⟩
  refine ⟨_, rfl, _, rfl, _, _, rfl, rfl, .inl (by omega), ?_⟩
  refine ⟨_, _, rfl, .inr (T.t_COMMON _), _, rfl, bk, bdx, _, rfl, hbk, rfl, _, rfl, bk, r, is, rfl, M.bo, fun l H1 m1 hl1 hl => ?_⟩
  refine ⟨_, _, rfl, .inl (.inl (.inl hl)), _, _, rfl, rfl, _, _, rfl, _, _, rfl, rfl, _, rfl, iN (by simp [kCOMMON, kCAUSES]; omega) ?_⟩
  refine ⟨_, rfl, _, rfl, _, _, rfl, rfl, .inl (by omega), ?_⟩
  refine ⟨_, rfl, _, rfl, _, rfl, _, _, _, rfl, bk, r, is, tb, g, pl * pg, rfl, M.bo.same m1, rfl, M.ta.same m1, rfl, M.ot, fun H2 m2' => ⟨_, rfl, iteF ?_⟩⟩
  have m2 := m1.trans m2'
  clear m2'
  have ea := m2 _ _ M.ea
  refine ⟨_, rfl, _, _, _, _, rfl, .base (.dK ea), ki_dd, _, rfl, iteF ?_⟩
  refine ⟨en, _, ea, trivial, fun od => ?_⟩
  have ed : (upd H2 en (.frz od (.dK ek))) en = some (.frz od (.dK ek)) := upd_same
  have hf : ∀ H', Same (upd H2 en (.frz od (.dK ek))) H' → Same H2 (upd H' en (.dK ek)) := fun H' m => Same.unlock ea m
  have tf : Tps H (upd H2 en (.frz od (.dK ek))) := (Tps.of m2).trans (Tps.put ea fun _ z => by cases z)
  generalize upd H2 en (.frz od (.dK ek)) = H3 at ed hf tf ⊢
  refine ⟨_, rfl, en, od, rfl, .inl ⟨ek, ed, fun D hD => ?_⟩⟩
  refine lc_true walk_keys (by have := M.eo.1; omega) hD (fun _ m => m _ _ ed) (fun i y H4 H5 R hi m3 y' hR => ?_) fun H4 m3 hl => ?_
  · obtain ⟨rfl, ky, v, hkv, rfl⟩ := y'
    obtain ⟨q, n, x, y, e, q0, q1, _⟩ := M.eo.2 _ (List.mem_of_getElem? hkv)
    have e : ky = Sum.inl q := e
    subst e
    refine ⟨rfl, _, rfl, _, rfl, _, _, rfl, q, _, rfl, rfl, ?_⟩
    rw [decide_eq_true q0, decide_eq_true q1]
    refine ⟨_, rfl, iteT ?_⟩
    obtain ⟨v', hv', hm'⟩ := valV_some (List.mem_of_getElem? hkv)
    obtain ⟨q', n, x, y, e, _, _, td, n0, hx, hy⟩ := M.eo.2 _ hm'
    exact ⟨_, rfl, _, rfl, en, v', rfl, .inl ⟨ek, Sum.inl q, .inr ⟨od, m3 _ _ ed⟩, rfl, hv'.symm⟩, _, rfl, n, x, y, (td.mono tf).mono (.of m3), n0, hx, hy, fun H6 m6 => hR _ m6⟩
  have nd : D ≠ en := fun z => by rw [z, ed] at hD; cases hD
  refine ⟨m3 _ _ ed, _, _, rfl, .inl (.inl ((upd_ne nd).trans hl)), _, rfl, iN (by simp) ?_⟩
  have m5 := m2.trans (hf _ m3)
  generalize upd H4 en (.dK ek) = H5 at m5 ⊢
  clear tf hf ed hl m3 nd hD m2 ea
  have ca := m5 _ _ M.ca
  refine ⟨_, rfl, _, _, _, _, rfl, .base (.dK ca), ki_dd, _, rfl, iteF ?_⟩
  refine ⟨co, _, ca, trivial, fun od => ?_⟩
  have ed : (upd H5 co (.frz od (.dK ck))) co = some (.frz od (.dK ck)) := upd_same
  have hf : ∀ H', Same (upd H5 co (.frz od (.dK ck))) H' → Same H5 (upd H' co (.dK ck)) := fun H' m => Same.unlock ca m
  have tf : Tps H (upd H5 co (.frz od (.dK ck))) := (Tps.of m5).trans (Tps.put ca fun _ z => by cases z)
  have hb : BookAt K (upd H5 co (.frz od (.dK ck))) bk r is := (M.bo.same m5).bt .put ca
  generalize upd H5 co (.frz od (.dK ck)) = H6 at ed hf tf hb ⊢
  refine ⟨_, rfl, co, od, rfl, .inl ⟨ck, ed, fun D hD => ?_⟩⟩
  refine lc_true walk_keys (by have := M.co_.1; omega) hD (fun _ m => m _ _ ed) (fun i y H7 H8 R hi m3 y' hR => ?_) fun H7 m3 hl => ?_
  · obtain ⟨rfl, ky, v, hkv, rfl⟩ := y'
    obtain ⟨q, x, ns, ins, e, q0, q1, _⟩ := M.co_.2 _ (List.mem_of_getElem? hkv)
    have e : ky = Sum.inl q := e
    subst e
    refine ⟨rfl, _, rfl, _, rfl, _, _, rfl, q, _, rfl, rfl, ?_⟩
    rw [decide_eq_true q0, decide_eq_true q1]
    refine ⟨_, rfl, iteT ?_⟩
    obtain ⟨v', hv', hm'⟩ := valV_some (List.mem_of_getElem? hkv)
    obtain ⟨q', x, ns, ins, e, _, _, td, hx, hn, hns⟩ := M.co_.2 _ hm'
    exact ⟨_, rfl, _, rfl, _, rfl, co, v', rfl, .inl ⟨ck, Sum.inl q, .inr ⟨od, m3 _ _ ed⟩, rfl, hv'.symm⟩, _, _, rfl, bk, r, is, x, ins, ns, rfl, hb.same m3, M.gi, (td.mono tf).mono (.of m3), hx, hn, hns, fun H9 m9 => hR _ m9⟩
  have nd : D ≠ co := fun z => by rw [z, ed] at hD; cases hD
  exact ⟨m3 _ _ ed, _, _, rfl, .inl (.inl ((upd_ne nd).trans hl)), _, rfl, iN (by simp) (k _ (m5.trans (hf _ m3)))⟩
end
end W73
set_option Elab.async false
set_option linter.all false
set_option maxRecDepth 100000
set_option maxHeartbeats 4000000
namespace W73
open PySem PySem.Spec PyProof.Rows L2
open C8 (Cal Met Mak pe_c pe_mk pe_mt pe_mt0 pe_gc pss_cut tCut)
section
variable {P : Program} {w : World} {K : PySem.W.Frag} {mg : Str → Option Value} {base : Heap}
def IntsV (k : List (List Key × V)) : Prop := ∀ p ∈ k, ∃ m : Int, p.2 = .int m
theorem putK_mem {κ : Type} [DecidableEq κ] {kvs : List (κ × V)} {k : κ} {v : V} {p : κ × V} (h : p ∈ putK kvs k v) : p ∈ kvs ∨ p = (k, v) := by
  unfold putK at h
  split at h
  · obtain ⟨q, hq, e⟩ := List.mem_map.mp h
    split at e
    · rename_i e2
      exact .inr (by rw [← e, e2])
    · exact .inl (e ▸ hq)
  · rcases List.mem_append.mp h with h | h
    · exact .inl h
    · exact .inr (by simpa using h)
/-- the tables of a meaning: ap tells what they answer -/
theorem Rd.same {H H' : Hp} {a : Addr} {u : HO} (m : Same H H') : Rd H a u → Rd H' a u
  | .inl h => .inl (m _ _ h)
  | .inr ⟨o, h⟩ => .inr ⟨o, m _ _ h⟩
theorem Rd.lock {H : Hp} {a q : Addr} {u v : HO} {o : Obj} (hq : H q = some v) (hv : ∀ o w, v ≠ .frz o w) : Rd H a u → Rd (upd H q (.frz o v)) a u := fun h => by
  by_cases e : a = q
  · subst e
    rcases h with h | ⟨o', h⟩
    · rw [hq] at h
      cases h
      exact .inr ⟨o, upd_same⟩
    · rw [hq] at h
      cases h
      exact absurd rfl (hv _ _)
  · rcases h with h | ⟨o', h⟩
    · exact .inl ((upd_ne e).trans h)
    · exact .inr ⟨o', (upd_ne e).trans h⟩
theorem Rd.bt {y : Addr} {H H' : Hp} {a : Addr} {u v : HO} (m : Bt y H H') (hy : H y = some v) (h1 : v ≠ u) (h2 : ∀ o, v ≠ .frz o u) : Rd H a u → Rd H' a u
  | .inl h => .inl (m _ _ (fun z => by rw [z, hy] at h; exact h1 (Option.some.inj h)) h)
  | .inr ⟨o, h⟩ => .inr ⟨o, m _ _ (fun z => by rw [z, hy] at h; exact h2 o (Option.some.inj h)) h⟩
def ApAt (H : Hp) (R : Addr) (ap : Str → List Int → Int) : Prop := ∃ kvs, Rd H R (.dK kvs) ∧ ∀ x ∈ (["sum", "less", "unit"] : List Str), ∃ d k, valV kvs (Sum.inr x) = some (.ref d) ∧ Rd H d (.dT k) ∧ ∀ ns : List Int, (valV k (ns.map Sum.inl)).getD (.int 0) = .int (ap x ns)
def CoAt (H : Hp) (a : Addr) (code : Int → Option (Str × List Int)) : Prop := ∃ ck, Rd H a (.dK ck) ∧ ∀ n, match code n with
  | none => valV ck (Sum.inl n) = none
  | some (x, ns) => ∃ v, valV ck (Sum.inl n) = some v ∧ TD' H (.t [.s x, .t (ns.map D.i)]) v
structure Gd where
  r : Int
  is : List Ins
  pl : Int
  pg : Int
  ap : Str → List Int → Int
  code : Int → Option (Str × List Int)
structure Gd.ok (g : Gd) : Prop where
  gi : GoodIs g.is
  pl0 : 1 ≤ g.pl
  pl1 : g.pl ≤ 100
  pg0 : 1 ≤ g.pg
  pg1 : g.pg ≤ g.pl
  six : 6 ≤ g.pl * g.pg
  co : ∀ n x ns, g.code n = some (x, ns) → ∃ ins, insOf g.is x = some ins ∧ ns.length = ins.n ∧ ∀ n ∈ ns, 0 ≤ n ∧ n < g.r
def MeanAt (K : PySem.W.Frag) (H : Hp) (m : Addr) (g : Gd) : Prop := ∃ dx bk R S De, H m = some (.ins (C_Meaning K) dx [("ground", .ref bk), ("wide", .int g.pl), ("high", .int g.pg), ("results", .ref R), ("spots", .ref S), ("deeds", .ref De)]) ∧ BookAt K H bk g.r g.is ∧ ApAt H R g.ap ∧ CoAt H De g.code
theorem ApAt.same {H H' : Hp} {R : Addr} {ap : Str → List Int → Int} (m : Same H H') : ApAt H R ap → ApAt H' R ap := fun ⟨kvs, h, q⟩ => ⟨kvs, Rd.same m h, fun x hx => by
  obtain ⟨d, k, a, b, c⟩ := q x hx
  exact ⟨d, k, a, Rd.same m b, c⟩⟩
theorem CoAt.same {H H' : Hp} {R : Addr} {co : Int → Option (Str × List Int)} (m : Same H H') : CoAt H R co → CoAt H' R co := fun ⟨ck, h, q⟩ => ⟨ck, Rd.same m h, fun n => by
  have z := q n
  cases e : co n with
  | none => rw [e] at z; exact z
  | some p =>
    rw [e] at z
    obtain ⟨v, a, b⟩ := z
    exact ⟨v, a, b.mono (.of m)⟩⟩
theorem MeanAt.same {H H' : Hp} {a : Addr} {g : Gd} (m : Same H H') : MeanAt K H a g → MeanAt K H' a g := fun ⟨dx, bk, R, S, De, h, h1, h2, h3⟩ => ⟨dx, bk, R, S, De, m _ _ h, h1.same m, h2.same m, h3.same m⟩
theorem MeanAt.lock {H : Hp} {a q : Addr} {g : Gd} {kvs : List (Key × V)} {o : Obj} (hq : H q = some (.dK kvs)) : MeanAt K H a g → MeanAt K (upd H q (.frz o (.dK kvs))) a g := fun ⟨dx, bk, R, S, De, h, h1, ⟨kv, h2, h2'⟩, ck, h3, h3'⟩ =>
  have t : Tps H (upd H q (.frz o (.dK kvs))) := Tps.put hq fun _ z => by cases z
  have n : ∀ o w, HO.dK kvs ≠ .frz o w := fun _ _ z => by cases z
  ⟨dx, bk, R, S, De, (upd_ne (fun z => by rw [z, hq] at h; cases h)).trans h, h1.bt .put hq, ⟨kv, Rd.lock hq n h2, fun x hx => by
    obtain ⟨d, k, a, b, c⟩ := h2' x hx
    exact ⟨d, k, a, Rd.lock hq n b, c⟩⟩, ck, Rd.lock hq n h3, fun n => by
    have z := h3' n
    cases e : g.code n with
    | none => rw [e] at z; exact z
    | some p =>
      rw [e] at z
      obtain ⟨v, a, b⟩ := z
      exact ⟨v, a, b.mono t⟩⟩
theorem ap_of {H : Hp} {R : Addr} {kvs : List (Key × V)} (h : H R = some (.dK kvs)) (hk : kvs.map (·.1) = (["sum", "less", "unit"] : List Str).map Sum.inr) (hv : ∀ p ∈ kvs, ∃ d k, p.2 = .ref d ∧ H d = some (.dT k) ∧ IntsV k) : ∃ ap, ApAt H R ap := by
  have one : ∀ x : Str, x ∈ (["sum", "less", "unit"] : List Str) → ∃ (f : List Int → Int) (d : Addr) (k : List (List Key × V)), valV kvs (Sum.inr x) = some (.ref d) ∧ Rd H d (.dT k) ∧ ∀ ns : List Int, (valV k (ns.map Sum.inl)).getD (.int 0) = .int (f ns) := fun x hx => by
    have : (Sum.inr x : Key) ∈ kvs.map (·.1) := by
      rw [hk]
      exact List.mem_map.mpr ⟨x, hx, rfl⟩
    obtain ⟨p, hp, e⟩ := List.mem_map.mp this
    obtain ⟨v, e1, e2⟩ := valV_some (k := Sum.inr x) (v := p.2) (kvs := kvs) (by rw [← e]; exact hp)
    obtain ⟨d, k, e3, e4, e5⟩ := hv _ e2
    have e3 : v = .ref d := e3
    subst e3
    refine ⟨fun ns => match (valV k (ns.map Sum.inl)).getD (.int 0) with | .int n => n | _ => 0, d, k, e1, .inl e4, fun ns => ?_⟩
    cases q : valV k (ns.map Sum.inl) with
    | none => simp [q]
    | some z =>
      obtain ⟨m, e6⟩ := e5 _ (valV_mem q)
      have e6 : z = .int m := e6
      subst e6
      simp [q]
  classical
  refine ⟨fun x => if hx : x ∈ (["sum", "less", "unit"] : List Str) then (one x hx).choose else fun _ => 0, kvs, .inl h, fun x hx => ?_⟩
  obtain ⟨d, k, a, b, c⟩ := (one x hx).choose_spec
  refine ⟨d, k, a, b, ?_⟩
  simp only [dif_pos hx]
  exact c
theorem co_of {H : Hp} {a : Addr} {ck : List (Key × V)} {is : List Ins} {r wd : Int} (h : H a = some (.dK ck)) (ho : OkC H is r wd ck) : ∃ code : Int → Option (Str × List Int), CoAt H a code ∧ ∀ n x ns, code n = some (x, ns) → ∃ ins, insOf is x = some ins ∧ ns.length = ins.n ∧ ∀ n ∈ ns, 0 ≤ n ∧ n < r := by
  have one : ∀ n : Int, ∃ o : Option (Str × List Int), (match o with
      | none => valV ck (Sum.inl n) = none
      | some (x, ns) => ∃ v, valV ck (Sum.inl n) = some v ∧ TD' H (.t [.s x, .t (ns.map D.i)]) v) ∧ ∀ x ns, o = some (x, ns) → ∃ ins, insOf is x = some ins ∧ ns.length = ins.n ∧ ∀ n ∈ ns, 0 ≤ n ∧ n < r := fun n => by
    cases e : valV ck (Sum.inl n) with
    | none => exact ⟨none, rfl, fun _ _ z => by cases z⟩
    | some v =>
      obtain ⟨k, x, ns, ins, _, _, _, td, h1, h2, h3⟩ := ho.2 _ (valV_mem e)
      exact ⟨some (x, ns), ⟨v, rfl, td⟩, fun x' ns' z => by cases z; exact ⟨ins, h1, h2, h3⟩⟩
  exact ⟨fun n => (one n).choose, ⟨ck, .inl h, fun n => (one n).choose_spec.1⟩, fun n x ns e => (one n).choose_spec.2 x ns e⟩
end
end W73
set_option Elab.async false
set_option linter.all false
set_option maxRecDepth 100000
set_option maxHeartbeats 4000000
namespace W73
open PySem PySem.Spec PyProof.Rows L2
open C8 (Cal Met Mak pe_c pe_mk pe_mt pe_mt0 pe_gc pss_cut tCut)
section
variable {P : Program} {w : World} {K : PySem.W.Frag} {mg : Str → Option Value} {base : Heap}
/-- what isn't new is a tuple or an instance -/
def Nt (H0 H : Hp) : Hp := fun b => match H0 b with
  | none => H b
  | some (.tup _) => H b
  | some (.ins _ _ _) => H b
  | some _ => none
theorem Nt.to {H0 H : Hp} : Same (Nt H0 H) H := fun b u e => by
  unfold Nt at e
  split at e
  · exact e
  · exact e
  · exact e
  · cases e
theorem Nt.new {H0 H : Hp} {b : Addr} {u : HO} (n : H0 b = none) (e : H b = some u) : Nt H0 H b = some u := by
  unfold Nt
  rw [n]
  exact e
theorem Nt.ins {H0 H : Hp} {b : Addr} {u : HO} {C d : Addr} {l : List (Str × V)} (n : H0 b = some (.ins C d l)) (e : H b = some u) : Nt H0 H b = some u := by
  unfold Nt
  rw [n]
  exact e
theorem Nt.tup {H0 H : Hp} {b : Addr} {u : HO} {l : List V} (n : H0 b = some (.tup l)) (e : H b = some u) : Nt H0 H b = some u := by
  unfold Nt
  rw [n]
  exact e
theorem Nt.tps {y : Addr} {H0 H : Hp} {C d : Addr} {l : List (Str × V)} (m : Bt y H0 H) (hy : H0 y = some (.ins C d l)) : Tps H (Nt H0 H) := fun b xs e => by
  cases q : H0 b with
  | none => exact Nt.new q e
  | some v =>
    by_cases hb : b = y
    · subst hb
      exact Nt.ins hy e
    · have z := m b v hb q
      rw [e] at z
      cases z
      exact Nt.tup q e
def sp_Meaning_init (K : PySem.W.Frag) : Sp := sp7 fun x a b c d e f H Q => ∃ y dx bk r is pl pg tb g en ek co ck, x = .ref y ∧ H y = some (.ins (C_Meaning K) dx []) ∧ a = .ref bk ∧ b = .int pl ∧ c = .int pg ∧ d = .ref tb ∧ e = .ref en ∧ f = .ref co ∧ MIn K H bk r is pl pg tb g en ek co ck ∧
  ∀ H' (gd : Gd), Bt y H H' → gd.r = r → gd.is = is → gd.pl = pl → gd.pg = pg → gd.ok → MeanAt K (Nt H H') y gd → Q .non H'
theorem ok_Meaning_init (T : Tz P w K mg) : Mak P w K mg base 7 "Meaning" (C_Meaning K) (sp_Meaning_init K) [] := by
  have c_wrong_part : Cal P w K mg base 6 "wrong_part" (sp_wrong_part K) [] := ok_wrong_part T
  have c_Book_primitives : Met P w K mg base 1 (C_Book K) "primitives" (sp_Book_primitives K) [] := ok_Book_primitives T
  refine mk_Meaning_init T.toTx len7 fun f cdv A outer s H vs Q E hr h => ?_
  obtain ⟨_, _, _, _, _, _, _, rfl, y, dx, bk, r, is, pl, pg, tb, g, en, ek, co, ck, rfl, hy, rfl, rfl, rfl, rfl, rfl, rfl, M, k⟩ := h
  have hu := hu_of hr
  have hz := sizeL
  have ⟨bdx, _, _, _, _, hbk, _⟩ := M.bo
  refine ⟨_, (pss_cons (ps_set (i := 7) sc_Meaning_init.nd rfl (Or.inl rfl) (pe_c c_wrong_part hr (by first | decide | omega) rfl (pa_cons (pv 1) (pa_cons (pv 2) (pa_cons (pv 3) (pa_cons (pv 4) (pa_cons (pv 5) (pa_cons (pv 6) pa_nil))))))))
    (pss_cons (ps_if (pt_cmpR op_notN (pv 7) pe_non (nomark _)) pss_never pss_nil)
    (pss_cons (ps_fld (pv 0) (pv 1) rfl)
    (pss_cons (ps_fld (pv 0) (pv 2) rfl)
    (pss_cons (ps_fld (pv 0) (pv 3) rfl)
    (pss_cons (ps_fld (pv 0) pe_dnewK rfl)
    (pss_cons (ps_for PassesOwn.never rfl (pi_list (pe_mt0 c_Book_primitives hr (by first | decide | omega) (pv 1))) (pg_tup rfl (pgs_cons (pg_name (i := 8) sc_Meaning_init.nd rfl (Or.inl rfl)) (pgs_cons (pg_name (i := 9) sc_Meaning_init.nd rfl (Or.inl rfl)) pgs_nil))) (pss_cons (ps_set (i := 10) sc_Meaning_init.nd rfl (Or.inr rfl) (pe_dget2 hu (pv 4) (pv 8) pe_dnewK ⟨rfl, rfl, rfl, rfl⟩))
    (pss_one (ps_dput hu (pe_fld (pv 0) rfl) (pv 8) (pe_lock (pe_dq  (own := [("args", 11)]) (g := gName 11) true hu rfl sc_Meaning_init.nd (pi_keys (pv 10)) (blkOk_by (N := ["self", "book", "places", "pages", "tables", "entries", "code", "part", "name", "arity", "told", "args"]) (sc := defScope s_Meaning_init) (by decide +kernel)) (fun _ _ _ _ _ => (pg_name (i := 11) sc_Meaning_init.nd rfl (Or.inl rfl))) (fun _ _ _ _ _ => pts_one (pt_cmpR op_ne (pe_dget hu (pv 10) (pv 11) (fun _ _ => rfl)) pe_int (nomark _))) (fun _ _ _ _ _ => (pv 11)) (fun _ _ _ _ _ => (pe_dget hu (pv 10) (pv 11) (fun _ _ => rfl))))) rfl))))
    (pss_cons (ps_fld (pv 0) (pe_callTy call_dictD (by rfl) T.b_dict boot_dict (pa_cons (pv 5) pa_nil)) rfl)
    (pss_one (ps_fld (pv 0) (pe_callTy call_dictD (by rfl) T.b_dict boot_dict (pa_cons (pv 6) pa_nil)) rfl)))))))))), ?_⟩
  refine ⟨_, rfl, _, rfl, _, rfl, _, rfl, _, rfl, _, rfl, _, _, _, _, _, _, rfl, bk, r, is, pl, pg, tb, g, en, ek, co, ck, rfl, rfl, rfl, rfl, rfl, rfl, M, fun H1 m1 => ?_⟩
  refine ⟨_, rfl, rfl, _, rfl, iteF ?_⟩
  refine ⟨_, rfl, _, rfl, y, _, dx, _, rfl, m1 _ _ hy, T.c_Meaning, T.n_Meaning_ground, by simp, ?_⟩
  generalize hH : upd H1 y _ = H2
  have b2 : Bt y H H2 := (Bt.of m1).trans (hH ▸ .put)
  have e2 : H2 y = some (.ins (C_Meaning K) dx [("ground", .ref bk)]) := by rw [← hH]; exact upd_same
  clear hH
  refine ⟨_, rfl, _, rfl, y, _, dx, _, rfl, e2, T.c_Meaning, T.n_Meaning_wide, by simp, ?_⟩
  generalize hH : upd H2 y _ = H3
  have b3 : Bt y H H3 := b2.trans (hH ▸ .put)
  have e3 : H3 y = some (.ins (C_Meaning K) dx [("ground", .ref bk), ("wide", .int pl)]) := by rw [← hH]; exact upd_same
  clear hH
  refine ⟨_, rfl, _, rfl, y, _, dx, _, rfl, e3, T.c_Meaning, T.n_Meaning_high, by simp, ?_⟩
  generalize hH : upd H3 y _ = H4
  have b4 : Bt y H H4 := b3.trans (hH ▸ .put)
  have e4 : H4 y = some (.ins (C_Meaning K) dx [("ground", .ref bk), ("wide", .int pl), ("high", .int pg)]) := by rw [← hH]; exact upd_same
  clear hH
  intro R hR
  have m5 := Same.new (o := .dK []) hR
  have eR : (upd H4 R (.dK [])) R = some (.dK []) := upd_same
  generalize upd H4 R (.dK []) = H5 at m5 eR ⊢
  refine ⟨_, rfl, y, _, dx, _, rfl, m5 _ _ e4, T.c_Meaning, T.n_Meaning_results, by simp, ?_⟩
  have nR : R ≠ y := fun z => by rw [z, e4] at hR; cases hR
  generalize hH : upd H5 y _ = H6
  have b6 : Bt y H H6 := (b4.trans (.of m5)).trans (hH ▸ .put)
  have e6 : H6 y = some (.ins (C_Meaning K) dx [("ground", .ref bk), ("wide", .int pl), ("high", .int pg), ("results", .ref R)]) := by rw [← hH]; exact upd_same
  have eR6 : H6 R = some (.dK []) := by rw [← hH]; exact (upd_ne nR).trans eR
  clear hH
  have hyt : ∀ xs, HO.ins (C_Meaning K) dx [] ≠ .tup xs := fun xs z => by cases z
  have ny : ∀ {b u}, H b = some u → u ≠ .ins (C_Meaning K) dx [] → b ≠ y := fun {b u} e n z => by rw [z, hy] at e; cases e; exact n rfl
  have bo6 : BookAt K H6 bk r is := by
    obtain ⟨q0, q1, q2, q3, q4, p0, p1, p2, p3, p4⟩ := M.bo
    have t := b6.tps hy hyt
    exact ⟨q0, q1, q2, q3, q4, b6 _ _ (ny p0 (by simp)) p0, p1.mono t, p2.mono t, p3.mono t, p4.mono t⟩
  have bk6 := b6 _ _ (ny hbk (by simp)) hbk
  have ta6 : TabsAt H6 tb g := by
    obtain ⟨d1, d2, d3, p0, p1, p2, p3⟩ := M.ta
    exact ⟨d1, d2, d3, b6 _ _ (ny p0 (by simp)) p0, b6 _ _ (ny p1 (by simp)) p1, b6 _ _ (ny p2 (by simp)) p2, b6 _ _ (ny p3 (by simp)) p3⟩
  have en6 := b6 _ _ (ny M.ea (by simp)) M.ea
  have co6 := b6 _ _ (ny M.ca (by simp)) M.ca
  have oc6 : OkC H6 is r (pl * pg) ck := M.co_.mono (b6.tps hy hyt)
  have nRt : R ≠ tb := fun z => by obtain ⟨d1, d2, d3, p0, _⟩ := ta6; rw [← z, eR6] at p0; cases p0
  have hR0 : H R = none := by
    cases e : H R with
    | none => rfl
    | some u =>
      have q := b4 R u nR e
      rw [hR] at q
      cases q
  have nRe : R ≠ en := fun z => by rw [z, M.ea] at hR0; cases hR0
  have nRc : R ≠ co := fun z => by rw [z, M.ca] at hR0; cases hR0
  refine ⟨_, rfl, bk, bdx, _, rfl, bk6, rfl, _, rfl, bk, r, is, rfl, bo6, fun l H7 m7 hl1 ⟨us, hl, ts⟩ => ⟨l, rfl, ⟨us, .inl (.inl hl)⟩, ?_⟩⟩
  have lu := ts.length
  rw [List.length_map] at lu
  refine for_list (xs := us) (fun i σ Hx => ∃ v8 v9 v10 v11, σ = [some (.ref y), some (.ref bk), some (.int pl), some (.int pg), some (.ref tb), some (.ref en), some (.ref co), some .non, v8, v9, v10, v11] ∧ Bt R H7 Hx ∧
    ∃ kvs, Hx R = some (.dK kvs) ∧ kvs.map (·.1) = ((kPRIMS.map (·.1)).take i).map Sum.inr ∧ ∀ p ∈ kvs, ∃ d k, p.2 = .ref d ∧ Hx d = some (.dT k) ∧ IntsV k ∧ H d = none) ⟨_, _, _, _, rfl, fun _ _ _ e => e, [], m7 _ _ eR6, rfl, by simp⟩ ?_ ?_ ?_
  · rintro i σ Hx _ ⟨_, _, _, _, _, m, _⟩
    exact .inl (.inl (m _ _ (fun z => by rw [z, m7 _ _ eR6] at hl; cases hl) hl))
  · rintro i x σ Hx hx ⟨v8, v9, v10, v11, rfl, m, kvs, e, hk, hv⟩
    have tpx : Tps H7 Hx := m.tps (m7 _ _ eR6) fun _ z => by cases z
    obtain ⟨dd, hdd, td⟩ := TDs.get' (ts.mono tpx) hx
    have hlt : i < kPRIMS.length := by rw [lu]; exact (List.getElem?_eq_some_iff.mp hx).1
    rw [List.getElem?_map, List.getElem?_eq_getElem hlt] at hdd
    cases hdd
    have hkk : (kPRIMS.map (·.1))[i]'(by simpa using hlt) = kPRIMS[i].1 := by simp
    have hnk : kPRIMS[i].1 = "sum" ∨ kPRIMS[i].1 = "less" ∨ kPRIMS[i].1 = "unit" := by
      match i, hlt with
      | 0, _ => exact .inl rfl
      | 1, _ => exact .inr (.inl rfl)
      | 2, _ => exact .inr (.inr rfl)
    have hti : (kPRIMS.map (·.1)).take (i + 1) = (kPRIMS.map (·.1)).take i ++ [kPRIMS[i].1] := by
      rw [List.take_add_one, List.getElem?_eq_getElem (by simpa using hlt), hkk]
      rfl
    generalize kPRIMS[i] = q at td hkk hnk hti
    obtain ⟨nm, ar⟩ := q
    obtain ⟨pa, vs2, rfl, hpa, t2⟩ := td.tup
    cases t2 with
    | cons c1 c2 =>
    cases c2 with
    | cons c2 c3 =>
    cases c3
    cases c1
    cases c2
    dsimp only at hkk hnk hti hpa
    have nR7 : ∀ {b u}, H6 b = some u → b ≠ R → Hx b = some u := fun {b u} e n => m _ _ n (m7 _ _ e)
    obtain ⟨d1, d2, d3, p0, p1, p2, p3⟩ := ta6
    have nRd : ∀ {b k}, H6 b = some (.dT k) → b ≠ R := fun {b k} e z => by rw [z, eR6] at e; cases e
    obtain ⟨di, hv4, hdi, oT⟩ : ∃ di, valV ([(Sum.inr "sum", .ref d1), (Sum.inr "less", .ref d2), (Sum.inr "unit", .ref d3)] : List (Key × V)) (Sum.inr nm) = some (V.ref di) ∧ Hx di = some (.dT (g nm)) ∧ ∃ ar, OkT ar (pl * pg) (g nm) := by
      rcases hnk with rfl | rfl | rfl
      · exact ⟨d1, rfl, nR7 p1 (nRd p1), 2, M.ot.1⟩
      · exact ⟨d2, rfl, nR7 p2 (nRd p2), 1, M.ot.2.1⟩
      · exact ⟨d3, rfl, nR7 p3 (nRd p3), 0, M.ot.2.2⟩
    obtain ⟨ar', ol, oT⟩ := oT
    have htb := nR7 p0 nRt.symm
    refine ⟨pa, _, rfl, .inl (.inl hpa), rfl, _, _, rfl, _, _, rfl, rfl, ?_⟩
    refine ⟨_, rfl, tb, rfl, .inl ⟨_, .inl htb⟩, _, rfl, fun d0 hd0 => ?_⟩
    have my := Same.new (o := .dK []) hd0
    generalize upd Hx d0 (.dK []) = Hy at my ⊢
    refine ⟨some (.ref di), .inl ⟨_, Sum.inr nm, .inl (my _ _ htb), rfl, hv4.symm⟩, ?_⟩
    have hdy := my _ _ hdi
    refine ⟨di, _, hdy, trivial, fun od => ?_⟩
    have ed : (upd Hy di (.frz od (.dT (g nm)))) di = some (.frz od (.dT (g nm))) := upd_same
    have hf : ∀ H', Same (upd Hy di (.frz od (.dT (g nm)))) H' → Same Hy (upd H' di (.dT (g nm))) := fun H' m => Same.unlock hdy m
    have hEd : ∀ b, b ≠ di → (upd Hy di (.frz od (.dT (g nm)))) b = Hy b := fun b n => upd_ne n
    generalize upd Hy di (.frz od (.dT (g nm))) = Hl at ed hf hEd ⊢
    refine ⟨_, rfl, di, od, rfl, .inr ⟨g nm, ed, fun D hD => ?_⟩⟩
    have nD : D ≠ di := fun z => by rw [z, ed] at hD; cases hD
    have hDx : Hx D = none := by
      cases q : Hx D with
      | none => rfl
      | some u => exact absurd ((hEd D nD).trans (my _ _ q)) (by rw [hD]; simp)
    have zD0 : H D = none := by
      cases q : H D with
      | none => rfl
      | some u =>
        by_cases hb : D = y
        · subst hb
          rw [m _ _ nR.symm (m7 _ _ e6)] at hDx
          cases hDx
        · have z := m D u (fun z => by rw [z, hR0] at q; cases q) (m7 _ _ (b6 D u hb q))
          rw [hDx] at z
          cases z
    refine dq_it walk_keysT (fun j H' => Same Hl H' ∧ ∃ acc, H' D = some (.dT acc) ∧ IntsV acc ∧ acc.length ≤ j) ⟨Same.new hD, [], upd_same, by simp [IntsV], by simp⟩ (fun j H' _ h => h.1 _ _ ed) (fun j z H' H2' hj ⟨m8, acc, eD, iv, la⟩ y' => ?_) fun Hz ⟨m8, acc, eD, iv, la⟩ => ⟨m8 _ _ ed, ?_⟩
    · obtain ⟨rfl, ks, v, q, hkv, rfl, hq⟩ := y'
      obtain ⟨v', hv', hm'⟩ := valV_some (List.mem_of_getElem? hkv)
      obtain ⟨ns, mm, e0, _⟩ := oT _ hm'
      obtain rfl : v' = .int mm := (Prod.mk.inj e0).2
      refine ⟨rfl, _, rfl, _, rfl, di, .int mm, rfl, .inr ⟨g nm, ks, q, .inr ⟨od, m8 _ _ ed⟩, rfl, hq, hv'.symm⟩, rfl, _, rfl, ite2 (fun _ => ?_) fun _ => ⟨m8, acc, eD, iv, by omega⟩⟩
      refine ⟨_, rfl, _, rfl, _, rfl, di, .int mm, rfl, .inr ⟨g nm, ks, q, .inr ⟨od, m8 _ _ ed⟩, rfl, hq, hv'.symm⟩, _, DPut.t eD hq (by omega), Same.mut m8 hD, _, upd_same, ?_, ?_⟩
      · intro p hp
        rcases putK_mem hp with hp | rfl
        · exact iv p hp
        · exact ⟨mm, rfl⟩
      · have := length_putK acc ks (.int mm)
        omega
    · have mw := my.trans (hf _ m8)
      have eDw : (upd Hz di (.dT (g nm))) D = some (.dT acc) := (upd_ne nD).trans eD
      generalize upd Hz di (.dT (g nm)) = Hw at mw eDw ⊢
      have ey : Hw y = _ := mw _ _ (m _ _ nR.symm (m7 _ _ e6))
      have hv0 : valV kvs (Sum.inr nm) = none := valV_none fun p hp => by
        intro z
        have : (Sum.inr nm : Key) ∈ kvs.map (·.1) := List.mem_map.mpr ⟨p, hp, z⟩
        rw [hk] at this
        obtain ⟨w', hw', e'⟩ := List.mem_map.mp this
        cases e'
        have q2 := take_notin (xs := kPRIMS.map (·.1)) (by decide) (i := i) (by simpa using hlt)
        rw [hkk] at q2
        exact q2 hw'
      have hkl : kvs.length ≤ 3 := by
        have := congrArg List.length hk
        simp [kPRIMS] at this
        omega
      refine ⟨_, rfl, y, _, dx, _, _, rfl, ey, T.c_Meaning, T.n_Meaning_results, rfl, _, rfl, R, _, rfl, DPut.k (k := Sum.inr nm) (mw _ _ e) (by omega), _, _, _, _, rfl, (m.trans (.of mw)).trans .put, _, upd_same, ?_, ?_⟩
      · rw [putK_new hv0, List.map_append, hk, hti, List.map_append]
        rfl
      · intro p hp
        rw [putK_new hv0] at hp
        rcases List.mem_append.mp hp with hp | hp
        · obtain ⟨d, k', e1, e2', e3⟩ := hv p hp
          exact ⟨d, k', e1, (upd_ne (fun z => by rw [z, e] at e2'; cases e2')).trans (mw _ _ e2'), e3⟩
        · have hp : p = (Sum.inr nm, .ref D) := by simpa using hp
          subst hp
          exact ⟨D, acc, rfl, (upd_ne (fun z => by rw [z, mw _ _ e] at eDw; cases eDw)).trans eDw, iv, zD0⟩
  · rintro σ Hx ⟨v8, v9, v10, v11, rfl, m, kvs, e, hk, hv⟩
    have hk : kvs.map (·.1) = (["sum", "less", "unit"] : List Str).map Sum.inr := by
      rw [hk, ← lu]
      rfl
    have tpx : Tps H6 Hx := (Tps.of m7).trans (m.tps (m7 _ _ eR6) fun _ z => by cases z)
    have keep : ∀ {b u}, b ≠ R → H6 b = some u → Hx b = some u := fun {b u} n e => m _ _ n (m7 _ _ e)
    have ey := keep nR.symm e6
    have bH : Bt y H Hx := fun b u n q => keep (fun z => by rw [z, hR0] at q; cases q) (b6 b u n q)
    have hco := keep nRc.symm co6
    have bk' : BookAt K Hx bk r is := by
      obtain ⟨q0, q1, q2, q3, q4, h0, h1, h2, h3, h4⟩ := bo6
      exact ⟨q0, q1, q2, q3, q4, keep (fun z => by rw [z, eR6] at h0; cases h0) h0, h1.mono tpx, h2.mono tpx, h3.mono tpx, h4.mono tpx⟩
    have hen := keep nRe.symm en6
    refine ⟨_, rfl, en, ek, rfl, .inl hen, fun S hS => ?_⟩
    have mS := Same.new (o := .dK ek) hS
    generalize upd Hx S (.dK ek) = Ha at mS ⊢
    refine ⟨_, rfl, y, _, dx, _, rfl, mS _ _ ey, T.c_Meaning, T.n_Meaning_spots, by simp, ?_⟩
    generalize hH : upd Ha y _ = Hb
    have bb : Bt y Hx Hb := (Bt.of mS).trans (hH ▸ .put)
    have eb : Hb y = some (.ins (C_Meaning K) dx [("ground", .ref bk), ("wide", .int pl), ("high", .int pg), ("results", .ref R), ("spots", .ref S)]) := by rw [← hH]; exact upd_same
    clear hH
    have ncy : co ≠ y := ny M.ca (by simp)
    refine ⟨_, rfl, co, ck, rfl, .inl (bb _ _ ncy hco), fun De hDe => ?_⟩
    have mD := Same.new (o := .dK ck) hDe
    have eD : (upd Hb De (.dK ck)) De = some (.dK ck) := upd_same
    generalize upd Hb De (.dK ck) = Hc at mD eD ⊢
    refine ⟨_, rfl, y, _, dx, _, rfl, mD _ _ eb, T.c_Meaning, T.n_Meaning_deeds, by simp, ?_⟩
    generalize hH : upd Hc y _ = Hd
    have bd : Bt y Hx Hd := (bb.trans (.of mD)).trans (hH ▸ .put)
    have ef : Hd y = some (.ins (C_Meaning K) dx [("ground", .ref bk), ("wide", .int pl), ("high", .int pg), ("results", .ref R), ("spots", .ref S), ("deeds", .ref De)]) := by rw [← hH]; exact upd_same
    have nDe : De ≠ y := fun z => by rw [z, eb] at hDe; cases hDe
    have eDd : Hd De = some (.dK ck) := by rw [← hH]; exact (upd_ne nDe).trans eD
    clear hH
    have tpd : Tps Hx Hd := bd.tps ey fun _ z => by cases z
    have ny' : ∀ {b u}, Hx b = some u → (∀ C d l, u ≠ .ins C d l) → b ≠ y := fun {b u} q n z => by rw [z, ey] at q; cases q; exact n _ _ _ rfl
    have bH' := bH.trans bd
    have tpn : Tps Hd (Nt H Hd) := Nt.tps bH' hy
    have hDe0 : H De = none := by
      cases q : H De with
      | none => rfl
      | some u =>
        have z := (bH.trans bb) De u nDe q
        rw [hDe] at z
        cases z
    have nRy : R ≠ y := nR
    obtain ⟨ap, hap⟩ := ap_of (H := Nt H Hd) (Nt.new hR0 (bd _ _ nRy e)) hk (fun p hp => by
      obtain ⟨d, k', q1, q2, q3, q4⟩ := hv p hp
      exact ⟨d, k', q1, Nt.new q4 (bd _ _ (ny' q2 (by simp)) q2), q3⟩)
    obtain ⟨code, hcode, hgood⟩ := co_of (Nt.new hDe0 eDd) (((oc6.mono tpx).mono tpd).mono tpn)
    refine k Hd ⟨r, is, pl, pg, ap, code⟩ bH' rfl rfl rfl rfl ⟨M.gi, M.pl0, M.pl1, M.pg0, M.pg1, M.six, hgood⟩ ⟨dx, bk, R, S, De, Nt.ins hy ef, ?_, hap, hcode⟩
    obtain ⟨q0, q1, q2, q3, q4, h0, h1, h2, h3, h4⟩ := bk'
    have nby : bk ≠ y := fun z => by rw [z, ey] at h0; simp at h0
    exact ⟨q0, q1, q2, q3, q4, Nt.ins hbk (bd _ _ nby h0), (h1.mono tpd).mono tpn, (h2.mono tpd).mono tpn, (h3.mono tpd).mono tpn, (h4.mono tpd).mono tpn⟩
end
end W73
set_option Elab.async false
set_option linter.all false
set_option maxRecDepth 100000
set_option maxHeartbeats 4000000
namespace W73
open PySem PySem.Spec PyProof.Rows L2
open C8 (Cal Met Mak pe_c pe_mk pe_mt pe_mt0 pe_gc pss_cut tCut)
section
variable {P : Program} {w : World} {K : PySem.W.Frag} {mg : Str → Option Value} {base : Heap}
def sp_Meaning_book (K : PySem.W.Frag) : Sp := sp1 fun a H Q => ∃ m g, a = .ref m ∧ MeanAt K H m g ∧ ∀ bk, BookAt K H bk g.r g.is → Q (.ref bk) H
theorem ok_Meaning_book (T : Tz P w K mg) : Met P w K mg base 1 (C_Meaning K) "book" (sp_Meaning_book K) [] := by
  refine mk_Meaning_book T.toTx len1 fun f cdv A outer s H vs Q E hr h => ?_
  obtain ⟨_, rfl, m, g, rfl, ⟨dx, bk, R, S, De, h0, h1, h2, h3⟩, k⟩ := h
  refine ⟨_, (pss_one (ps_ret (pe_fld (pv 0) rfl))), ?_⟩
  exact ⟨_, rfl, m, _, dx, _, _, rfl, h0, T.c_Meaning, T.n_Meaning_ground, rfl, k _ h1⟩
def sp_Meaning_places (K : PySem.W.Frag) : Sp := sp1 fun a H Q => ∃ m g, a = .ref m ∧ MeanAt K H m g ∧ Q (.int g.pl) H
theorem ok_Meaning_places (T : Tz P w K mg) : Met P w K mg base 1 (C_Meaning K) "places" (sp_Meaning_places K) [] := by
  refine mk_Meaning_places T.toTx len1 fun f cdv A outer s H vs Q E hr h => ?_
  obtain ⟨_, rfl, m, g, rfl, ⟨dx, bk, R, S, De, h0, h1, h2, h3⟩, k⟩ := h
  refine ⟨_, (pss_one (ps_ret (pe_fld (pv 0) rfl))), ?_⟩
  exact ⟨_, rfl, m, _, dx, _, _, rfl, h0, T.c_Meaning, T.n_Meaning_wide, rfl, k⟩
def Gd.wd (g : Gd) : Int := g.pl * g.pg
theorem Gd.ok.wd {g : Gd} (h : g.ok) : 6 ≤ g.wd ∧ g.wd ≤ 10000 := ⟨h.six, by
  have h1 := h.pl0
  have h2 := h.pl1
  have h3 := h.pg0
  have h4 := h.pg1
  unfold Gd.wd
  calc g.pl * g.pg ≤ 100 * g.pg := Int.mul_le_mul_of_nonneg_right h2 (by omega)
    _ ≤ 10000 := by omega⟩
def sp_Meaning_words (K : PySem.W.Frag) : Sp := sp1 fun a H Q => ∃ m g, a = .ref m ∧ MeanAt K H m g ∧ g.ok ∧ Q (.int g.wd) H
theorem ok_Meaning_words (T : Tz P w K mg) : Met P w K mg base 1 (C_Meaning K) "words" (sp_Meaning_words K) [] := by
  refine mk_Meaning_words T.toTx len1 fun f cdv A outer s H vs Q E hr h => ?_
  obtain ⟨_, rfl, m, g, rfl, ⟨dx, bk, R, S, De, h0, h1, h2, h3⟩, ok, k⟩ := h
  have q1 := ok.pl0
  have q2 := ok.pl1
  refine ⟨_, (pss_one (ps_ret (pe_op op_mul (pe_fld (pv 0) rfl) (pe_fld (pv 0) rfl)))), ?_⟩
  exact ⟨_, rfl, m, _, dx, _, _, rfl, h0, T.c_Meaning, T.n_Meaning_wide, rfl, _, rfl, m, _, dx, _, _, rfl, h0, T.c_Meaning, T.n_Meaning_high, rfl, _, _, rfl, rfl, .inl (by omega), k⟩
def sp_Meaning_is_word (K : PySem.W.Frag) : Sp := sp2 fun a b H Q => ∃ m g i, a = .ref m ∧ MeanAt K H m g ∧ g.ok ∧ b = .int i ∧ Q (.bl (decide (0 ≤ i) && decide (i < g.wd))) H
theorem ok_Meaning_is_word (T : Tz P w K mg) : Met P w K mg base 3 (C_Meaning K) "is_word" (sp_Meaning_is_word K) [] := by
  have c_is_below : Cal P w K mg base 2 "is_below" sp_is_below [] := ok_is_below T
  have c_Meaning_words : Met P w K mg base 1 (C_Meaning K) "words" (sp_Meaning_words K) [] := ok_Meaning_words T
  refine mk_Meaning_is_word T.toTx len2 fun f cdv A outer s H vs Q E hr h => ?_
  obtain ⟨_, _, rfl, m, g, i, rfl, hm, ok, rfl, k⟩ := h
  have ⟨dx, _, _, _, _, h0, _⟩ := hm
  refine ⟨_, (pss_one (ps_ret (pe_c c_is_below hr (by first | decide | omega) rfl (pa_cons (pv 1) (pa_cons (pe_mt0 c_Meaning_words hr (by first | decide | omega) (pv 0)) pa_nil))))), ?_⟩
  exact ⟨_, rfl, _, rfl, m, dx, _, rfl, h0, rfl, _, rfl, m, g, rfl, hm, ok, _, _, rfl, i, g.wd, rfl, rfl, k⟩
def sp_Meaning_page (K : PySem.W.Frag) : Sp := sp2 fun a b H Q => ∃ m g i, a = .ref m ∧ MeanAt K H m g ∧ g.ok ∧ b = .int i ∧ Q (.int (i.fdiv g.pl)) H
theorem ok_Meaning_page (T : Tz P w K mg) : Met P w K mg base 1 (C_Meaning K) "page" (sp_Meaning_page K) [] := by
  refine mk_Meaning_page T.toTx len2 fun f cdv A outer s H vs Q E hr h => ?_
  obtain ⟨_, _, rfl, m, g, i, rfl, ⟨dx, bk, R, S, De, h0, h1, h2, h3⟩, ok, rfl, k⟩ := h
  have q1 := ok.pl0
  have q2 := ok.pl1
  refine ⟨_, (pss_one (ps_ret (pe_op op_fdivN (pv 1) (pe_fld (pv 0) rfl)))), ?_⟩
  exact ⟨_, rfl, _, rfl, m, _, dx, _, _, rfl, h0, T.c_Meaning, T.n_Meaning_wide, rfl, _, _, rfl, rfl, ⟨by omega, by omega⟩, k⟩
def sp_Meaning_place (K : PySem.W.Frag) : Sp := sp2 fun a b H Q => ∃ m g i, a = .ref m ∧ MeanAt K H m g ∧ g.ok ∧ b = .int i ∧ Q (.int (i.fmod g.pl)) H
theorem ok_Meaning_place (T : Tz P w K mg) : Met P w K mg base 1 (C_Meaning K) "place" (sp_Meaning_place K) [] := by
  refine mk_Meaning_place T.toTx len2 fun f cdv A outer s H vs Q E hr h => ?_
  obtain ⟨_, _, rfl, m, g, i, rfl, ⟨dx, bk, R, S, De, h0, h1, h2, h3⟩, ok, rfl, k⟩ := h
  have q1 := ok.pl0
  refine ⟨_, (pss_one (ps_ret (pe_op op_modN (pv 1) (pe_fld (pv 0) rfl)))), ?_⟩
  exact ⟨_, rfl, _, rfl, m, _, dx, _, _, rfl, h0, T.c_Meaning, T.n_Meaning_wide, rfl, _, _, rfl, rfl, by omega, k⟩
def sp_Meaning_next (K : PySem.W.Frag) : Sp := sp2 fun a b H Q => ∃ m g i, a = .ref m ∧ MeanAt K H m g ∧ g.ok ∧ b = .int i ∧ Q (.int ((i + 1).fmod g.wd)) H
theorem ok_Meaning_next (T : Tz P w K mg) : Met P w K mg base 2 (C_Meaning K) "next" (sp_Meaning_next K) [] := by
  have c_Meaning_words : Met P w K mg base 1 (C_Meaning K) "words" (sp_Meaning_words K) [] := ok_Meaning_words T
  refine mk_Meaning_next T.toTx len2 fun f cdv A outer s H vs Q E hr h => ?_
  obtain ⟨_, _, rfl, m, g, i, rfl, hm, ok, rfl, k⟩ := h
  have ⟨dx, _, _, _, _, h0, _⟩ := hm
  have q1 := ok.wd
  refine ⟨_, (pss_one (ps_ret (pe_op op_modN (pe_op op_add (pv 1) pe_int) (pe_mt0 c_Meaning_words hr (by first | decide | omega) (pv 0))))), ?_⟩
  exact ⟨_, rfl, _, _, rfl, rfl, _, rfl, m, dx, _, rfl, h0, rfl, _, rfl, m, g, rfl, hm, ok, _, _, rfl, rfl, by omega, k⟩
def sp_Meaning_apply (K : PySem.W.Frag) : Sp := sp3 fun a b c H Q => ∃ m g x, ∃ ns : List Int, a = .ref m ∧ MeanAt K H m g ∧ b = .str x ∧ x ∈ (["sum", "less", "unit"] : List Str) ∧ TD' H (.t (ns.map D.i)) c ∧ Q (.int (g.ap x ns)) H
theorem ok_Meaning_apply (T : Tz P w K mg) : Met P w K mg base 2 (C_Meaning K) "apply" (sp_Meaning_apply K) [] := by
  have c_is_known : Cal P w K mg base 1 "is_known" (sp_is_known K) [] := ok_is_known T
  refine mk_Meaning_apply T.toTx len3 fun f cdv A outer s H vs Q E hr h => ?_
  obtain ⟨_, _, _, rfl, m, g, x, ns, rfl, ⟨dx, bk, R, S, De, h0, h1, h2, h3⟩, rfl, hx, td, k⟩ := h
  have hu := hu_of hr
  obtain ⟨a, us, rfl, ha, ts⟩ := td.tup
  cases ts.ints
  obtain ⟨kvs, hR, hap⟩ := h2
  obtain ⟨d, kk, q1, q2, q3⟩ := hap x hx
  refine ⟨_, (pss_cons (ps_if (pt_not (pt_val (pe_c c_is_known hr (by first | decide | omega) rfl (pa_cons (pv 1) (pa_cons (pe_fld (pv 0) rfl) pa_nil))))) pss_never pss_nil)
    (pss_one (ps_ret (pe_dget2 hu (pe_dget hu (pe_fld (pv 0) rfl) (pv 1) (fun _ _ => rfl)) (pe_callTy call_tuple_of (by rfl) T.b_tuple boot_tuple (pa_cons (pv 2) pa_nil)) pe_int ⟨rfl, rfl, rfl, rfl⟩)))), ?_⟩
  refine ⟨_, rfl, _, rfl, m, _, dx, _, _, rfl, h0, T.c_Meaning, T.n_Meaning_results, rfl, _, _, rfl, x, rfl, .inr ⟨R, _, rfl, .inl ⟨_, Sum.inr x, hR, rfl, rfl⟩, _, rfl, iN (by rw [q1]; rfl) ?_⟩⟩
  refine ⟨_, rfl, m, _, dx, _, _, rfl, h0, T.c_Meaning, T.n_Meaning_results, rfl, _, rfl, R, .ref d, rfl, .inl ⟨_, Sum.inr x, hR, rfl, q1.symm⟩, d, rfl, .inr ⟨_, q2⟩, _, rfl, a, _, rfl, .inr ⟨.inl (.inl ha), ?_⟩⟩
  refine ⟨_, .inr ⟨kk, ns.map Sum.inl, a, q2, rfl, by rw [kV_ints]; exact ha, rfl⟩, ?_⟩
  rw [q3 ns]
  exact k
def sp_Meaning_code_of (K : PySem.W.Frag) : Sp := sp2 fun a b H Q => ∃ m g n, a = .ref m ∧ MeanAt K H m g ∧ b = .int n ∧ (g.code n = none → Q .non H) ∧ ∀ x ns v, g.code n = some (x, ns) → TD' H (.t [.s x, .t (ns.map D.i)]) v → Q v H
theorem ok_Meaning_code_of (T : Tz P w K mg) : Met P w K mg base 1 (C_Meaning K) "code_of" (sp_Meaning_code_of K) [] := by
  refine mk_Meaning_code_of T.toTx len2 fun f cdv A outer s H vs Q E hr h => ?_
  obtain ⟨_, _, rfl, m, g, n, rfl, ⟨dx, bk, R, S, De, h0, h1, h2, ⟨ck, hD, hc⟩⟩, rfl, k1, k2⟩ := h
  have hu := hu_of hr
  refine ⟨_, (pss_one (ps_ret (pe_dget1 hu (pe_fld (pv 0) rfl) (pv 1) ⟨rfl, rfl, rfl, rfl⟩))), ?_⟩
  refine ⟨_, rfl, m, _, dx, _, _, rfl, h0, T.c_Meaning, T.n_Meaning_deeds, rfl, De, rfl, .inl ⟨_, hD⟩, _, rfl, _, .inl ⟨_, Sum.inl n, hD, rfl, rfl⟩, ?_⟩
  have z := hc n
  cases e : g.code n with
  | none =>
    rw [e] at z
    have z : valV ck (Sum.inl n) = none := z
    rw [z]
    exact k1 e
  | some p =>
    rw [e] at z
    obtain ⟨x, ns⟩ := p
    obtain ⟨v, a, b⟩ := z
    rw [a]
    exact k2 x ns v e b
end
end W73
set_option Elab.async false
set_option linter.all false
set_option maxRecDepth 100000
set_option maxHeartbeats 4000000
namespace W73
open PySem PySem.Spec PyProof.Rows L2
open C8 (Cal Met Mak pe_c pe_mk pe_mt pe_mt0 pe_gc pss_cut tCut)
section
variable {P : Program} {w : World} {K : PySem.W.Frag} {mg : Str → Option Value} {base : Heap}
/-- a list of lists of ints -/
def FrAt (H : Hp) (F : Addr) (fr : List (List Int)) : Prop := ∃ as : List Addr, H F = some (.lst (as.map V.ref)) ∧ Paired (fun a (row : List Int) => H a = some (.lst (row.map V.int))) as fr
theorem FrAt.same {H H' : Hp} {F : Addr} {fr : List (List Int)} (m : Same H H') : FrAt H F fr → FrAt H' F fr := fun ⟨as, h, p⟩ => ⟨as, m _ _ h, L2.Paired.mapP p fun _ _ e => m _ _ e⟩
theorem Paired.at {α β : Type} {R : α → β → Prop} : ∀ {as : List α} {bs : List β} {i : Nat} {a : α}, Paired R as bs → as[i]? = some a → ∃ b, bs[i]? = some b ∧ R a b
  | _, _, _, _, .nil, h => by simp at h
  | _, _, 0, _, .cons r _, h => by simp at h; subst h; exact ⟨_, rfl, r⟩
  | _, _, i + 1, _, .cons _ t, h => by simpa using Paired.at t (by simpa using h)
theorem Paired.at' {α β : Type} {R : α → β → Prop} : ∀ {as : List α} {bs : List β} {i : Nat} {b : β}, Paired R as bs → bs[i]? = some b → ∃ a, as[i]? = some a ∧ R a b
  | _, _, _, _, .nil, h => by simp at h
  | _, _, 0, _, .cons r _, h => by simp at h; subst h; exact ⟨_, rfl, r⟩
  | _, _, i + 1, _, .cons _ t, h => by simpa using Paired.at' t (by simpa using h)
def spK (f : Str → Int) : List (Key × V) := kSPECS.map fun x => (Sum.inr x, .int (f x))
theorem spK_at {f : Str → Int} {x : Str} (h : x ∈ kSPECS) : valV (spK f) (Sum.inr x) = some (.int (f x)) := by
  have : ∀ l : List Str, x ∈ l → valV (l.map fun x => ((Sum.inr x : Key), V.int (f x))) (Sum.inr x) = some (.int (f x)) := by
    intro l
    induction l with
    | nil => intro h; simp at h
    | cons y l ih =>
      intro h
      by_cases e : y = x
      · subst e
        exact valV_pos rfl
      · rw [List.map_cons, valV_neg (by intro z; exact e (Sum.inr.inj z))]
        exact ih ((List.mem_cons.mp h).resolve_left fun z => e z.symm)
  exact this _ h
theorem spK_put {f : Str → Int} {x : Str} {n : Int} (h : x ∈ kSPECS) : putK (spK f) (Sum.inr x) (.int n) = spK fun y => if y = x then n else f y := by
  have hany : ((spK f).any fun kv => decide (kv.1 = Sum.inr x)) = true := by rw [valV_any, spK_at h]; rfl
  unfold putK
  rw [if_pos hany]
  unfold spK
  rw [List.map_map]
  refine List.map_congr_left fun y _ => ?_
  by_cases e : y = x
  · subst e
    simp
  · simp [e]
/-- a dict of two lists of ints, by the ports -/
def QsAt (H : Hp) (q : Addr) (t k : List Int) : Prop := ∃ a b, H q = some (.dK [(Sum.inr "tty", .ref a), (Sum.inr "keys", .ref b)]) ∧ H a = some (.lst (t.map V.int)) ∧ H b = some (.lst (k.map V.int)) ∧ a ≠ b
theorem QsAt.same {H H' : Hp} {q : Addr} {t k : List Int} (m : Same H H') : QsAt H q t k → QsAt H' q t k := fun ⟨a, b, h, h1, h2, n⟩ => ⟨a, b, m _ _ h, m _ _ h1, m _ _ h2, n⟩
def inW (g : Gd) (n : Int) : Prop := 0 ≤ n ∧ n < g.wd
def sp_are_words (K : PySem.W.Frag) : Sp := sp3 fun a b c H Q => ∃ m g v, ∃ ns : List Int, a = .ref m ∧ MeanAt K H m g ∧ g.ok ∧ b = .ref v ∧ H v = some (.lst (ns.map V.int)) ∧ (c = .non ∨ c = .int ns.length) ∧ (∀ n ∈ ns, inW g n) ∧ ns.length ≤ 100000 ∧ ∀ H', Same H H' → Q (.bl true) H'
theorem ok_are_words (T : Tz P w K mg) : Cal P w K mg base 4 "are_words" (sp_are_words K) [] := by
  have c_Meaning_is_word : Met P w K mg base 3 (C_Meaning K) "is_word" (sp_Meaning_is_word K) [] := ok_Meaning_is_word T
  refine mk_are_words T.toTx len3 fun f cdv A outer s H vs Q E hr h => ?_
  obtain ⟨_, _, c, rfl, m, g, v, ns, rfl, hm, ok, rfl, hv, hc, hn, hl, k⟩ := h
  have hz := sizeL
  refine ⟨_, (pss_cons (ps_if (PW.pt (pw_or (pt_not (pt_val (pe_isLT T.b_isinstance T.b_list T.b_tuple (pv 1)))) (pw_or1 (PW.pt (pw_and (pt_cmpR op_notN (pv 2) pe_non (nomark _)) (pw_and1 (pt_cmpR op_ne (pe_callB call_len_seq (by rfl) T.b_len PySem.boot_len (pa_cons (pv 1) pa_nil)) (pv 2) (nomark _)))))))) pss_never pss_nil)
    (pss_one (ps_ret (pe_callB (cr_all rfl) (by rfl) T.b_all boot_all (pa_cons (pe_lc  (own := [("value", 3)]) (g := gName 3) (tt := tYes) rfl sc_are_words.nd (pi_list (pv 1)) (blkOk_by (N := ["meaning", "values", "many", "value"]) (sc := defScope s_are_words) (by decide +kernel)) (fun _ _ _ _ _ => (pg_name (i := 3) sc_are_words.nd rfl (Or.inl rfl))) (fun _ _ _ _ _ => pts_nil) (fun _ _ _ _ _ => (pe_mt c_Meaning_is_word hr (by first | decide | omega) (pv 0) (pa_cons (pv 3) pa_nil)))) pa_nil))))), ?_⟩
  refine ⟨_, rfl, by show 2 ≤ sizeLine; decide, fun tp ht => ⟨_, tp, rfl, upd_same, ⟨v, _, rfl, .inl (Same.new ht _ _ hv)⟩, _, rfl, iteF ?_⟩⟩
  have m1 : Same H (upd H tp (.tup [.ty "list", .ty "tuple"])) := Same.new ht
  generalize upd H tp (.tup [.ty "list", .ty "tuple"]) = H1 at m1 ⊢
  have hv1 := m1 _ _ hv
  have fin : (tRet (tCB (rAll K) (tCons (tLc (iList K (tVar 1)) (gName 3) tYes (tMeth (C_Meaning K) "is_word" (sp_Meaning_is_word K) [] C8.E0 (tVar 0) (tCons (tVar 3) tNil)) [3]) tNil))) { nx := fun _ H' => Q .non H', rt := Q } [some (.ref m), some (.ref v), some c, none] H1 := by
    refine ⟨_, rfl, v, rfl, ⟨_, .inl (.inl hv1)⟩, fun D hD => ?_⟩
    refine lc_true (walk_list (xs := ns.map V.int)) (by simp; omega) hD (fun _ m => .inl (.inl (m _ _ hv1))) (fun i y H2 H3 R hi m2 y' hR => ?_) fun H2 m2 hl => ?_
    · obtain ⟨rfl, hy⟩ := y'
      rw [List.getElem?_map] at hy
      obtain ⟨n, hn2, rfl⟩ := Option.map_eq_some_iff.mp hy
      have q := hn n (List.mem_of_getElem? hn2)
      have mm := hm.same (m1.trans m2)
      have ⟨dx, _, _, _, _, h0, _⟩ := mm
      refine ⟨rfl, _, rfl, m, dx, _, rfl, h0, rfl, _, rfl, _, _, rfl, m, g, n, rfl, mm, ok, rfl, ?_⟩
      rw [decide_eq_true q.1, decide_eq_true q.2]
      exact hR _ (Same.refl _)
    · exact ⟨_, _, rfl, .inl (.inl hl), by simpa using k H2 (m1.trans m2)⟩
  rcases hc with rfl | rfl
  · exact ⟨_, rfl, rfl, _, rfl, iteF fin⟩
  · exact ⟨_, rfl, rfl, _, rfl, iteT ⟨_, rfl, _, _, rfl, .inl (.inl (.inl hv1)), _, rfl, rfl, _, rfl, iN (by simp) fin⟩⟩
end
end W73
set_option Elab.async false
set_option linter.all false
set_option maxRecDepth 100000
set_option maxHeartbeats 4000000
namespace W73
open PySem PySem.Spec PyProof.Rows L2
open C8 (Cal Met Mak pe_c pe_mk pe_mt pe_mt0 pe_gc pss_cut tCut)
section
variable {P : Program} {w : World} {K : PySem.W.Frag} {mg : Str → Option Value} {base : Heap}
/-- frames that are well -/
def OkFr (g : Gd) (fr : List (List Int)) : Prop := fr ≠ [] ∧ fr.length ≤ 1000 ∧ ∀ row ∈ fr, (row.length : Int) = g.pl ∧ ∀ n ∈ row, inW g n
def sp_are_frames (K : PySem.W.Frag) : Sp := sp2 fun a b H Q => ∃ m g F fr, a = .ref m ∧ MeanAt K H m g ∧ g.ok ∧ b = .ref F ∧ FrAt H F fr ∧ OkFr g fr ∧ ∀ H', Same H H' → Q (.bl true) H'
theorem ok_are_frames (T : Tz P w K mg) : Cal P w K mg base 5 "are_frames" (sp_are_frames K) [] := by
  have c_are_words : Cal P w K mg base 4 "are_words" (sp_are_words K) [] := ok_are_words T
  have c_Meaning_places : Met P w K mg base 1 (C_Meaning K) "places" (sp_Meaning_places K) [] := ok_Meaning_places T
  refine mk_are_frames T.toTx len2 fun f cdv A outer s H vs Q E hr h => ?_
  obtain ⟨_, _, rfl, m, g, F, fr, rfl, hm, ok, rfl, ⟨as, hF, hp⟩, ⟨ne, hl, ho⟩, k⟩ := h
  have hz := sizeL
  have lf := Paired.length hp
  refine ⟨_, (pss_cons (ps_if (PW.pt (pw_or (pt_not (pt_val (pe_isLT T.b_isinstance T.b_list T.b_tuple (pv 1)))) (pw_or1 (pt_cmpR op_eq (pe_callB call_len_seq (by rfl) T.b_len PySem.boot_len (pa_cons (pv 1) pa_nil)) pe_int (nomark _))))) pss_never pss_nil)
    (pss_one (ps_ret (pe_callB (cr_all rfl) (by rfl) T.b_all boot_all (pa_cons (pe_lc  (own := [("frame", 2)]) (g := gName 2) (tt := tYes) rfl sc_are_frames.nd (pi_list (pv 1)) (blkOk_by (N := ["meaning", "frames", "frame"]) (sc := defScope s_are_frames) (by decide +kernel)) (fun _ _ _ _ _ => (pg_name (i := 2) sc_are_frames.nd rfl (Or.inl rfl))) (fun _ _ _ _ _ => pts_nil) (fun _ _ _ _ _ => (pe_c c_are_words hr (by first | decide | omega) rfl (pa_cons (pv 0) (pa_cons (pv 2) (pa_cons (pe_mt0 c_Meaning_places hr (by first | decide | omega) (pv 0)) pa_nil)))))) pa_nil))))), ?_⟩
  refine ⟨_, rfl, by show 2 ≤ sizeLine; decide, fun tp ht => ⟨_, tp, rfl, upd_same, ⟨F, _, rfl, .inl (Same.new ht _ _ hF)⟩, _, rfl, iteF ?_⟩⟩
  have m1 : Same H (upd H tp (.tup [.ty "list", .ty "tuple"])) := Same.new ht
  generalize upd H tp (.tup [.ty "list", .ty "tuple"]) = H1 at m1 ⊢
  have hF1 := m1 _ _ hF
  refine ⟨_, rfl, _, _, rfl, .inl (.inl (.inl hF1)), rfl, _, rfl, iN ?_ ?_⟩
  · have : as.length ≠ 0 := by
      rw [lf]
      exact fun z => ne (List.length_eq_zero_iff.mp z)
    simp
    exact fun z => this (by simp [z])
  refine ⟨_, rfl, F, rfl, ⟨_, .inl (.inl hF1)⟩, fun D hD => ?_⟩
  refine lc_true (walk_list (xs := as.map V.ref)) (by simp; omega) hD (fun _ m => .inl (.inl (m _ _ hF1))) (fun i y H2 H3 R hi m2 y' hR => ?_) fun H2 m2 hl => ?_
  · obtain ⟨rfl, hy⟩ := y'
    rw [List.getElem?_map] at hy
    obtain ⟨a, ha, rfl⟩ := Option.map_eq_some_iff.mp hy
    obtain ⟨row, hrow, hA⟩ := Paired.at hp ha
    have q := ho row (List.mem_of_getElem? hrow)
    have m3 := m1.trans m2
    have mm := hm.same m3
    have ⟨dx, _, _, _, _, h0, _⟩ := mm
    have hpl := ok.pl1
    refine ⟨rfl, _, rfl, _, rfl, _, rfl, m, dx, _, rfl, h0, rfl, _, rfl, m, g, rfl, mm, ?_⟩
    exact ⟨_, _, _, rfl, m, g, a, row, rfl, mm, ok, rfl, m3 _ _ hA, .inr (by rw [q.1]), q.2, by have := q.1; omega, fun H5 m5 => hR _ m5⟩
  · exact ⟨_, _, rfl, .inl (.inl hl), by simpa using k H2 (m1.trans m2)⟩
def sp_are_specials (K : PySem.W.Frag) : Sp := sp2 fun a b H Q => ∃ m g s f, a = .ref m ∧ MeanAt K H m g ∧ g.ok ∧ b = .ref s ∧ H s = some (.dK (spK f)) ∧ (∀ x ∈ kSPECS, inW g (f x)) ∧ ∀ H', Same H H' → Q (.bl true) H'
theorem ok_are_specials (T : Tz P w K mg) : Cal P w K mg base 4 "are_specials" (sp_are_specials K) [] := by
  have c_Meaning_is_word : Met P w K mg base 3 (C_Meaning K) "is_word" (sp_Meaning_is_word K) [] := ok_Meaning_is_word T
  refine mk_are_specials T.toTx len2 fun f cdv A outer s H vs Q E hr h => ?_
  obtain ⟨_, _, rfl, m, g, sp, f, rfl, hm, ok, rfl, hs, hf, k⟩ := h
  have hu := hu_of hr
  have hz := sizeL
  refine ⟨_, (pss_cons (ps_if (PW.pt (pw_or (pt_not (pt_val (pe_is T.b_isinstance T.b_dict boot_dict (pv 1)))) (pw_or1 (pt_cmpR op_ne (pe_callB call_lenD (by rfl) T.b_len PySem.boot_len (pa_cons (pv 1) pa_nil)) (pe_callB call_len_seq (by rfl) T.b_len PySem.boot_len (pa_cons (pe_gc rfl T.k_SPECIALS_machines) pa_nil)) (nomark _))))) pss_never pss_nil)
    (pss_one (ps_ret (pe_callB (cr_all rfl) (by rfl) T.b_all boot_all (pa_cons (pe_lc  (own := [("name", 2)]) (g := gName 2) (tt := tYes) rfl sc_are_specials.nd (pi_tup (pe_gc rfl T.k_SPECIALS_machines)) (blkOk_by (N := ["meaning", "specials", "name"]) (sc := defScope s_are_specials) (by decide +kernel)) (fun _ _ _ _ _ => (pg_name (i := 2) sc_are_specials.nd rfl (Or.inl rfl))) (fun _ _ _ _ _ => pts_nil) (fun _ _ _ _ _ => (pe_and (pe_cmp (pc_din hu (pv 2) (pv 1)) rfl) (pe_one (pe_mt c_Meaning_is_word hr (by first | decide | omega) (pv 0) (pa_cons (pe_dget hu (pv 1) (pv 2) (fun _ _ => rfl)) pa_nil)))))) pa_nil))))), ?_⟩
  refine ⟨_, rfl, _, _, _, _, rfl, .base (.dK hs), ki_dd, _, rfl, iteF ?_⟩
  refine ⟨_, rfl, sp, _, rfl, hs, _, _, rfl, .inr (T.t_SPECIALS_machines _), rfl, _, rfl, iN (by simp [spK]) ?_⟩
  refine ⟨_, rfl, ⟨_, T.t_SPECIALS_machines _⟩, fun D hD => ?_⟩
  refine lc_true (walk_tup (xs := kSPECS.map V.str)) (by show 9 ≤ sizeLine; omega) hD (fun _ m => T.t_SPECIALS_machines _) (fun i y H2 H3 R hi m2 y' hR => ?_) fun H2 m2 hl => ?_
  · obtain ⟨rfl, hy⟩ := y'
    rw [List.getElem?_map] at hy
    obtain ⟨x, hx, rfl⟩ := Option.map_eq_some_iff.mp hy
    have hx := List.mem_of_getElem? hx
    have q := hf x hx
    have mm := hm.same m2
    have ⟨dx, _, _, _, _, h0, _⟩ := mm
    have hs2 := m2 _ _ hs
    refine ⟨rfl, _, rfl, _, rfl, sp, _, rfl, DGet.k (k := Sum.inr x) hs2, _, rfl, ?_⟩
    rw [spK_at hx]
    refine iteT ⟨_, rfl, m, dx, _, rfl, h0, rfl, _, rfl, _, rfl, sp, .int (f x), rfl, .inl ⟨_, Sum.inr x, .inl hs2, rfl, (spK_at hx).symm⟩, _, _, rfl, m, g, f x, rfl, mm, ok, rfl, ?_⟩
    rw [decide_eq_true q.1, decide_eq_true q.2]
    exact hR _ (Same.refl _)
  · exact ⟨_, _, rfl, .inl (.inl hl), by simpa using k H2 m2⟩
def sp_are_by_ports (K : PySem.W.Frag) : Sp := sp2 fun a b H Q => ∃ m g q t k, a = .ref m ∧ MeanAt K H m g ∧ b = .ref q ∧ QsAt H q t k ∧ ∀ H', Same H H' → Q (.bl true) H'
theorem ok_are_by_ports (T : Tz P w K mg) : Cal P w K mg base 2 "are_by_ports" (sp_are_by_ports K) [] := by
  have c_Book_ports : Met P w K mg base 1 (C_Book K) "ports" (sp_Book_ports K) [] := ok_Book_ports T
  have c_Meaning_book : Met P w K mg base 1 (C_Meaning K) "book" (sp_Meaning_book K) [] := ok_Meaning_book T
  refine mk_are_by_ports T.toTx len2 fun f cdv A outer s H vs Q E hr h => ?_
  obtain ⟨_, _, rfl, m, g, q, t, ke, rfl, hm, rfl, ⟨a, b, hq, ha, hb, _⟩, k⟩ := h
  have hu := hu_of hr
  have hz := sizeL
  have ⟨dx, _, _, _, _, h0, _⟩ := hm
  refine ⟨_, (pss_cons (ps_set (i := 2) sc_are_by_ports.nd rfl (Or.inl rfl) (pe_mt0 c_Book_ports hr (by first | decide | omega) (pe_mt0 c_Meaning_book hr (by first | decide | omega) (pv 0))))
    (pss_cons (ps_if (PW.pt (pw_or (pt_not (pt_val (pe_is T.b_isinstance T.b_dict boot_dict (pv 1)))) (pw_or1 (pt_cmpR op_ne (pe_callB call_lenD (by rfl) T.b_len PySem.boot_len (pa_cons (pv 1) pa_nil)) (pe_callB call_len_seq (by rfl) T.b_len PySem.boot_len (pa_cons (pv 2) pa_nil)) (nomark _))))) pss_never pss_nil)
    (pss_one (ps_ret (pe_callB (cr_all rfl) (by rfl) T.b_all boot_all (pa_cons (pe_lc  (own := [("port", 3)]) (g := gName 3) (tt := tYes) rfl sc_are_by_ports.nd (pi_list (pv 2)) (blkOk_by (N := ["meaning", "lists", "ports", "port"]) (sc := defScope s_are_by_ports) (by decide +kernel)) (fun _ _ _ _ _ => (pg_name (i := 3) sc_are_by_ports.nd rfl (Or.inl rfl))) (fun _ _ _ _ _ => pts_nil) (fun _ _ _ _ _ => (pe_and (pe_cmp (pc_din hu (pv 3) (pv 1)) rfl) (pe_one (pe_isLT T.b_isinstance T.b_list T.b_tuple (pe_dget hu (pv 1) (pv 3) (fun _ _ => rfl))))))) pa_nil)))))), ?_⟩
  refine ⟨_, rfl, m, dx, _, rfl, h0, rfl, _, rfl, m, g, rfl, hm, fun bk hbk => ?_⟩
  have ⟨bdx, _, _, _, _, hb0, _⟩ := hbk
  refine ⟨bk, bdx, _, rfl, hb0, rfl, _, rfl, bk, _, _, rfl, hbk, fun l H1 m1 hl1 hl => ?_⟩
  have hq1 := m1 _ _ hq
  refine ⟨_, rfl, _, _, _, _, rfl, .base (.dK hq1), ki_dd, _, rfl, iteF ?_⟩
  refine ⟨_, rfl, q, _, rfl, hq1, _, rfl, _, _, rfl, .inl (.inl (.inl hl)), rfl, _, rfl, iN (by simp [kPORTS]) ?_⟩
  refine ⟨_, rfl, l, rfl, ⟨_, .inl (.inl hl)⟩, fun D hD => ?_⟩
  refine lc_true (walk_list (xs := kPORTS.map V.str)) (by show 2 ≤ sizeLine; omega) hD (fun _ m => .inl (.inl (m _ _ hl))) (fun i y H2 H3 R hi m2 y' hR => ?_) fun H2 m2 hl => ?_
  · obtain ⟨rfl, hy⟩ := y'
    have hq2 := m2 _ _ hq1
    obtain ⟨x, c, ns, rfl, hv, hc⟩ : ∃ (x : Str) (c : Addr) (ns : List Int), y = .str x ∧ valV ([(Sum.inr "tty", .ref a), (Sum.inr "keys", .ref b)] : List (Key × V)) (Sum.inr x) = some (.ref c) ∧ H c = some (.lst (ns.map V.int)) := by
      match i, hy with
      | 0, e => cases e; exact ⟨"tty", a, t, rfl, rfl, ha⟩
      | 1, e => cases e; exact ⟨"keys", b, ke, rfl, rfl, hb⟩
      | i + 2, e => simp [kPORTS] at e
    have hc2 := m2 _ _ (m1 _ _ hc)
    refine ⟨rfl, _, rfl, _, rfl, q, _, rfl, DGet.k (k := Sum.inr x) hq2, _, rfl, ?_⟩
    rw [hv]
    refine iteT ⟨_, rfl, _, rfl, q, .ref c, rfl, .inl ⟨_, Sum.inr x, .inl hq2, rfl, hv.symm⟩, by show 2 ≤ sizeLine; decide, fun tp htp => ⟨_, tp, rfl, upd_same, ⟨c, _, rfl, .inl (Same.new htp _ _ hc2)⟩, hR _ (Same.new htp)⟩⟩
  · exact ⟨_, _, rfl, .inl (.inl hl), by simpa using k H2 (m1.trans m2)⟩
def sp_are_outs (K : PySem.W.Frag) : Sp := sp2 fun a b H Q => ∃ m g q t k, a = .ref m ∧ MeanAt K H m g ∧ g.ok ∧ b = .ref q ∧ QsAt H q t k ∧ (∀ n ∈ t, inW g n) ∧ (∀ n ∈ k, inW g n) ∧ t.length ≤ 1000 ∧ k.length ≤ 1000 ∧ ∀ H', Same H H' → Q (.bl true) H'
theorem ok_are_outs (T : Tz P w K mg) : Cal P w K mg base 5 "are_outs" (sp_are_outs K) [] := by
  have c_are_by_ports : Cal P w K mg base 2 "are_by_ports" (sp_are_by_ports K) [] := ok_are_by_ports T
  have c_are_words : Cal P w K mg base 4 "are_words" (sp_are_words K) [] := ok_are_words T
  refine mk_are_outs T.toTx len2 fun f cdv A outer s H vs Q E hr h => ?_
  obtain ⟨_, _, rfl, m, g, q, t, ke, rfl, hm, ok, rfl, hqs, ht, hk, lt, lk, k⟩ := h
  have hu := hu_of hr
  have hz := sizeL
  refine ⟨_, (pss_one (ps_ret (pe_and (pe_c c_are_by_ports hr (by first | decide | omega) rfl (pa_cons (pv 0) (pa_cons (pv 1) pa_nil))) (pe_one (pe_callB (cr_all rfl) (by rfl) T.b_all boot_all (pa_cons (pe_lock (pe_lc  (own := [("port", 2)]) (g := gName 2) (tt := tYes) rfl sc_are_outs.nd (pi_keys (pv 1)) (blkOk_by (N := ["meaning", "outs", "port"]) (sc := defScope s_are_outs) (by decide +kernel)) (fun _ _ _ _ _ => (pg_name (i := 2) sc_are_outs.nd rfl (Or.inl rfl))) (fun _ _ _ _ _ => pts_nil) (fun _ _ _ _ _ => (pe_c c_are_words hr (by first | decide | omega) rfl (pa_cons (pv 0) (pa_cons (pe_dget hu (pv 1) (pv 2) (fun _ _ => rfl)) (pa_cons pe_non pa_nil))))))) pa_nil)))))), ?_⟩
  refine ⟨_, rfl, _, rfl, _, _, rfl, m, g, q, t, ke, rfl, hm, rfl, hqs, fun H1 m1 => ⟨_, rfl, iteT ?_⟩⟩
  obtain ⟨a, b, hq, ha, hb, nab⟩ := hqs.same m1
  have hm1 := hm.same m1
  generalize hkv : ([(Sum.inr "tty", .ref a), (Sum.inr "keys", .ref b)] : List (Key × V)) = kvs at hq
  refine ⟨q, _, hq, trivial, fun od => ?_⟩
  have ed : (upd H1 q (.frz od (.dK kvs))) q = some (.frz od (.dK kvs)) := upd_same
  have hf : ∀ H', Same (upd H1 q (.frz od (.dK kvs))) H' → Same H1 (upd H' q (.dK kvs)) := fun H' m => Same.unlock hq m
  have nf : ∀ {b u}, H1 b = some u → (∀ z, u ≠ .dK z) → (upd H1 q (.frz od (.dK kvs))) b = some u := fun {b u} e n => (upd_ne (fun z => by rw [z, hq] at e; cases e; exact n _ rfl)).trans e
  have ha3 := nf ha fun _ z => by cases z
  have hb3 := nf hb fun _ z => by cases z
  have hm3 : MeanAt K (upd H1 q (.frz od (.dK kvs))) m g := hm1.lock hq
  generalize upd H1 q (.frz od (.dK kvs)) = H3 at ed hf ha3 hb3 hm3 ⊢
  refine ⟨_, rfl, q, od, rfl, .inl ⟨kvs, ed, fun D hD => ?_⟩⟩
  refine lc_true walk_keys (by rw [← hkv]; show 2 ≤ sizeLine; omega) hD (fun _ m => m _ _ ed) (fun i y H4 H5 R hi m3 y' hR => ?_) fun H4 m3 hl => ?_
  · obtain ⟨rfl, ky, v, hkv2, rfl⟩ := y'
    obtain ⟨x, c, ns, rfl, hv, hc, hn, hl⟩ : ∃ (x : Str) (c : Addr) (ns : List Int), ky = Sum.inr x ∧ valV kvs (Sum.inr x) = some (.ref c) ∧ H3 c = some (.lst (ns.map V.int)) ∧ (∀ n ∈ ns, inW g n) ∧ ns.length ≤ 1000 := by
      subst hkv
      match i, hkv2 with
      | 0, e => cases e; exact ⟨"tty", a, t, rfl, rfl, ha3, ht, lt⟩
      | 1, e => cases e; exact ⟨"keys", b, ke, rfl, rfl, hb3, hk, lk⟩
      | i + 2, e => simp at e
    exact ⟨rfl, _, rfl, _, rfl, _, rfl, q, .ref c, rfl, .inl ⟨_, Sum.inr x, .inr ⟨od, m3 _ _ ed⟩, rfl, hv.symm⟩, _, _, _, rfl, m, g, c, ns, rfl, hm3.same m3, ok, rfl, m3 _ _ hc, .inl rfl, hn, by omega, fun H6 m6 => hR _ m6⟩
  · have nd : D ≠ q := fun z => by rw [z, ed] at hD; cases hD
    exact ⟨m3 _ _ ed, _, _, rfl, .inl (.inl ((upd_ne nd).trans hl)), by simpa using k _ (m1.trans (hf _ m3))⟩
end
end W73
set_option Elab.async false
set_option linter.all false
set_option maxRecDepth 100000
set_option maxHeartbeats 4000000
namespace W73
open PySem PySem.Spec PyProof.Rows L2
open C8 (Cal Met Mak pe_c pe_mk pe_mt pe_mt0 pe_gc pss_cut tCut)
section
variable {P : Program} {w : World} {K : PySem.W.Frag} {mg : Str → Option Value} {base : Heap}
/-! ### views -/
def rt (c : Nat) : Str := ⟨#[c]⟩
theorem rt_r : ("r" : Str) = rt 114 := by decide +kernel
theorem rt_w : ("w" : Str) = rt 119 := by decide +kernel
theorem rt_x : ("x" : Str) = rt 120 := by decide +kernel
structure Cv where
  g : Gd
  fr : List (List Int)
  mp : Int → Option (Int × Str)
  sw : Str → Int
  tty : List Int
  keys : List Int
def spt (c : Cv) (addr : Int) (ch : Nat) : Option (Int × Int) := match c.mp (addr.fdiv c.g.pl) with
  | none => none
  | some (f, r) => if decide (ch ∈ r.cps.toList) = true then some (f, addr.fmod c.g.pl) else none
def wat (fr : List (List Int)) (f p : Int) : Int := ((fr[f.toNat]?.getD [])[p.toNat]?).getD 0
structure Cv.ok (c : Cv) : Prop where
  go : c.g.ok
  frl : c.fr.length ≤ 1000
  row : ∀ row ∈ c.fr, (row.length : Int) = c.g.pl
  mpo : ∀ n f r, c.mp n = some (f, r) → 0 ≤ f ∧ f < c.fr.length
  tl : c.tty.length ≤ 1000
  kl : c.keys.length ≤ 1000
theorem spt_in {c : Cv} (h : c.ok) {a : Int} {ch : Nat} {f p : Int} (e : spt c a ch = some (f, p)) : (0 ≤ f ∧ f < c.fr.length) ∧ 0 ≤ p ∧ p < c.g.pl := by
  unfold spt at e
  cases q : c.mp (a.fdiv c.g.pl) with
  | none => rw [q] at e; cases e
  | some z =>
    obtain ⟨f', r⟩ := z
    rw [q] at e
    dsimp only at e
    split at e
    · cases e
      have := h.go.pl0
      exact ⟨h.mpo _ _ _ q, Int.fmod_nonneg_of_pos _ (by omega), Int.fmod_lt_of_pos _ (by omega)⟩
    · cases e
def MapAt (H : Hp) (a : Addr) (mp : Int → Option (Int × Str)) : Prop := ∃ kvs, H a = some (.dK kvs) ∧ ∀ n, match mp n with
  | none => valV kvs (Sum.inl n) = none
  | some (f, r) => ∃ t, valV kvs (Sum.inl n) = some (.ref t) ∧ H t = some (.tup [.int f, .str r])
theorem MapAt.same {H H' : Hp} {a : Addr} {mp : Int → Option (Int × Str)} (m : Same H H') : MapAt H a mp → MapAt H' a mp := fun ⟨kvs, h, q⟩ => ⟨kvs, m _ _ h, fun n => by
  have z := q n
  cases e : mp n with
  | none => rw [e] at z; exact z
  | some p =>
    rw [e] at z
    obtain ⟨t, a, b⟩ := z
    exact ⟨t, a, m _ _ b⟩⟩
/-- the answers by the ports: of each a list of pairs (0, word) -/
def PqAt (H : Hp) (q : Addr) (k : List Int) : Prop := ∃ a b, ∃ ps : List Addr, H q = some (.dK [(Sum.inr "tty", .ref a), (Sum.inr "keys", .ref b)]) ∧ H a = some (.lst []) ∧ H b = some (.lst (ps.map V.ref)) ∧ Paired (fun p (n : Int) => H p = some (.tup [.int 0, .int n])) ps k ∧ a ≠ b
theorem PqAt.same {H H' : Hp} {q : Addr} {k : List Int} (m : Same H H') : PqAt H q k → PqAt H' q k := fun ⟨a, b, ps, h, h1, h2, h3, n⟩ => ⟨a, b, ps, m _ _ h, m _ _ h1, m _ _ h2, L2.Paired.mapP h3 fun _ _ e => m _ _ e, n⟩
def ViewAt (K : PySem.W.Frag) (H : Hp) (v : Addr) (c : Cv) : Prop := ∃ dx m F s o q mp, H v = some (.ins (C_BoxView K) dx [("ground", .ref m), ("frame_rows", .ref F), ("special_words", .ref s), ("out_rows", .ref o), ("answer_rows", .ref q), ("moment", .int 0), ("mapping", .ref mp)]) ∧
  MeanAt K H m c.g ∧ FrAt H F c.fr ∧ H s = some (.dK (spK c.sw)) ∧ QsAt H o c.tty [] ∧ PqAt H q c.keys ∧ MapAt H mp c.mp
theorem ViewAt.same {H H' : Hp} {v : Addr} {c : Cv} (m : Same H H') : ViewAt K H v c → ViewAt K H' v c := fun ⟨dx, me, F, s, o, q, mp, h, h1, h2, h3, h4, h5, h6⟩ => ⟨dx, me, F, s, o, q, mp, m _ _ h, h1.same m, h2.same m, m _ _ h3, h4.same m, h5.same m, h6.same m⟩
def sp_spot_of (K : PySem.W.Frag) : Sp := sp3 fun a b d H Q => ∃ v c n ch, a = .ref v ∧ ViewAt K H v c ∧ c.ok ∧ b = .int n ∧ d = .str (rt ch) ∧ (spt c n ch = none → Q .non H) ∧ ∀ f p, spt c n ch = some (f, p) → ∀ t H', Same H H' → H t = none → H' t = some (.tup [.int f, .int p]) → Q (.ref t) H'
theorem ok_spot_of (T : Tz P w K mg) : Met P w K mg base 2 (C_BoxView K) "spot_of" (sp_spot_of K) [] := by
  have c_Meaning_page : Met P w K mg base 1 (C_Meaning K) "page" (sp_Meaning_page K) [] := ok_Meaning_page T
  have c_Meaning_place : Met P w K mg base 1 (C_Meaning K) "place" (sp_Meaning_place K) [] := ok_Meaning_place T
  refine mk_BoxView_spot_of T.toTx len3 fun f cdv A outer s H vs Q E hr h => ?_
  obtain ⟨_, _, _, rfl, v, c, n, ch, rfl, ⟨dx, m, F, sp, o, q, mp, h0, hm, hF, hs, ho, hq, ⟨kvs, hk, hmp⟩⟩, ok, rfl, rfl, k1, k2⟩ := h
  have hu := hu_of hr
  have ⟨mdx, _, _, _, _, hm0, _⟩ := hm
  refine ⟨_, (pss_cons (ps_set (i := 3) sc_BoxView_spot_of.nd rfl (Or.inl rfl) (pe_mt c_Meaning_page hr (by first | decide | omega) (pe_fld (pv 0) rfl) (pa_cons (pv 1) pa_nil)))
    (pss_cons (ps_if (PW.pt (pw_or (pt_cmp (pc_dnotin hu (pv 3) (pe_fld (pv 0) rfl))) (pw_or1 (pt_cmpR op_notIn_sign (pv 2) (pe_ix ix_tup (pe_dget hu (pe_fld (pv 0) rfl) (pv 3) (fun _ _ => rfl)) pe_int (fun _ _ => rfl)) rfl)))) (pss_one (ps_ret pe_non)) pss_nil)
    (pss_one (ps_ret (pe_tup (pa_cons (pe_ix ix_tup (pe_dget hu (pe_fld (pv 0) rfl) (pv 3) (fun _ _ => rfl)) pe_int (fun _ _ => rfl)) (pa_cons (pe_mt c_Meaning_place hr (by first | decide | omega) (pe_fld (pv 0) rfl) (pa_cons (pv 1) pa_nil)) pa_nil))))))), ?_⟩
  refine ⟨_, rfl, v, _, dx, _, _, rfl, h0, T.c_BoxView, T.n_BoxView_ground, rfl, m, mdx, _, rfl, hm0, rfl, _, rfl, _, _, rfl, m, c.g, n, rfl, hm, ok.go, rfl, ?_⟩
  have z := hmp (n.fdiv c.g.pl)
  refine ⟨_, rfl, _, rfl, v, _, dx, _, _, rfl, h0, T.c_BoxView, T.n_BoxView_mapping, rfl, mp, _, rfl, DGet.k (k := Sum.inl (n.fdiv c.g.pl)) hk, ?_⟩
  cases e : c.mp (n.fdiv c.g.pl) with
  | none =>
    rw [e] at z
    have z : valV kvs (Sum.inl (n.fdiv c.g.pl)) = none := z
    rw [z]
    exact ⟨_, rfl, iteT (k1 (by unfold spt; rw [e]))⟩
  | some fr =>
    obtain ⟨ff, r⟩ := fr
    rw [e] at z
    obtain ⟨t, z1, z2⟩ := z
    rw [z1]
    refine ⟨_, rfl, iteF ?_⟩
    refine ⟨_, rfl, _, rfl, v, _, dx, _, _, rfl, h0, T.c_BoxView, T.n_BoxView_mapping, rfl, _, rfl, mp, .ref t, rfl, .inl ⟨kvs, Sum.inl (n.fdiv c.g.pl), .inl hk, rfl, z1.symm⟩, _, _, _, _, rfl, rfl, .inl (.inl z2), rfl, ch, r, rfl, rfl, _, rfl, ?_⟩
    by_cases hc : ch ∈ r.cps.toList
    · refine iN (by simpa using hc) ?_
      have e2 : spt c n ch = some (ff, n.fmod c.g.pl) := by
        unfold spt
        rw [e]
        exact if_pos (decide_eq_true hc)
      refine ⟨_, rfl, v, _, dx, _, _, rfl, h0, T.c_BoxView, T.n_BoxView_mapping, rfl, _, rfl, mp, .ref t, rfl, .inl ⟨kvs, Sum.inl (n.fdiv c.g.pl), .inl hk, rfl, z1.symm⟩, _, _, _, _, rfl, rfl, .inl (.inl z2), rfl, ?_⟩
      refine ⟨_, rfl, v, _, dx, _, _, rfl, h0, T.c_BoxView, T.n_BoxView_ground, rfl, m, mdx, _, rfl, hm0, rfl, _, rfl, _, _, rfl, m, c.g, n, rfl, hm, ok.go, rfl, ?_⟩
      exact ⟨by show 2 ≤ sizeLine; decide, fun t' ht' => k2 _ _ e2 t' _ (Same.new ht') ht' upd_same⟩
    · refine iP (by simpa using hc) (k1 ?_)
      unfold spt
      rw [e]
      exact if_neg (by simpa using hc)
def sp_word_at (K : PySem.W.Frag) : Sp := sp2 fun a b H Q => ∃ v c t f p, a = .ref v ∧ ViewAt K H v c ∧ c.ok ∧ b = .ref t ∧ H t = some (.tup [.int f, .int p]) ∧ 0 ≤ f ∧ f < c.fr.length ∧ 0 ≤ p ∧ p < c.g.pl ∧ Q (.int (wat c.fr f p)) H
theorem ok_word_at (T : Tz P w K mg) : Met P w K mg base 1 (C_BoxView K) "word_at" (sp_word_at K) [] := by
  refine mk_BoxView_word_at T.toTx len2 fun f cdv A outer s H vs Q E hr h => ?_
  obtain ⟨_, _, rfl, v, c, t, ff, p, rfl, ⟨dx, m, F, sp, o, q, mp, h0, hm, ⟨as, hF, hA⟩, _⟩, ok, rfl, ht, f0, f1, p0, p1, k⟩ := h
  obtain ⟨f, rfl⟩ := Int.eq_ofNat_of_zero_le f0
  obtain ⟨p, rfl⟩ := Int.eq_ofNat_of_zero_le p0
  have hf : f < c.fr.length := by omega
  obtain ⟨a, ha, hrow⟩ := Paired.at' hA (List.getElem?_eq_getElem hf)
  have hl := ok.row _ (List.getElem_mem hf)
  have hp : p < (c.fr[f]).length := by omega
  have e : wat c.fr f p = (c.fr[f])[p] := by
    unfold wat
    rw [Int.toNat_natCast, Int.toNat_natCast, List.getElem?_eq_getElem hf]
    show ((c.fr[f])[p]?).getD 0 = _
    rw [List.getElem?_eq_getElem hp]
    rfl
  rw [e] at k
  refine ⟨_, (pss_one (ps_ret (pe_ix ix_list (pe_ix ix_list (pe_fld (pv 0) rfl) (pe_ix ix_tup (pv 1) pe_int (fun _ _ => rfl)) (fun _ _ => rfl)) (pe_ix ix_tup (pv 1) pe_int (fun _ _ => rfl)) (fun _ _ => rfl)))), ?_⟩
  refine ⟨_, rfl, v, _, dx, _, _, rfl, h0, T.c_BoxView, T.n_BoxView_frame_rows, rfl, _, rfl, _, _, _, _, rfl, rfl, .inl (.inl ht), rfl, _, _, _, .ref a, rfl, rfl, .inl (.inl hF), atI_nat (by rw [List.getElem?_map, ha]; rfl), ?_⟩
  exact ⟨_, rfl, _, _, _, _, rfl, rfl, .inl (.inl ht), rfl, _, _, _, _, rfl, rfl, .inl (.inl hrow), atI_nat (by rw [List.getElem?_map, List.getElem?_eq_getElem hp]; rfl), k⟩
end
end W73
set_option Elab.async false
set_option linter.all false
set_option maxRecDepth 100000
set_option maxHeartbeats 4000000
namespace W73
open PySem PySem.Spec PyProof.Rows L2
open C8 (Cal Met Mak pe_c pe_mk pe_mt pe_mt0 pe_gc pss_cut tCut)
section
variable {P : Program} {w : World} {K : PySem.W.Frag} {mg : Str → Option Value} {base : Heap}
/-! ### drafts -/
structure DA where
  d : Addr
  dx : Addr
  v : Addr
  sp : Addr
  se : Addr
  te : Addr
  ce : Addr
  sw : Addr
  ou : Addr
  an : Addr
  lo : Addr
  lp : Addr
  la : Addr
  lk : Addr
structure Ms where
  regs : List Int
  tmp : List Int
  cells : List (List Key × V)
  sw : Str → Int
  tty : List Int
  keys : List Int
  goal : Option Int
def gv : Option Int → V
  | none => .non
  | some n => .int n
def draftFs (a : DA) (g : V) : List (Str × V) := [("view", .ref a.v), ("spots", .ref a.sp), ("seats", .ref a.se), ("temporaries", .ref a.te), ("cells", .ref a.ce), ("special_words", .ref a.sw), ("out_rows", .ref a.ou), ("answer_rows", .ref a.an), ("goal", g)]
structure DrAt (K : PySem.W.Frag) (H : Hp) (a : DA) (se : List Int) (ms : Ms) : Prop where
  i : H a.d = some (.ins (C_Draft K) a.dx (draftFs a (gv ms.goal)))
  sp : H a.sp = some (.lst (ms.regs.map V.int))
  se : H a.se = some (.tup (se.map V.int))
  te : H a.te = some (.lst (ms.tmp.map V.int))
  ce : H a.ce = some (.dT ms.cells)
  sw : H a.sw = some (.dK (spK ms.sw))
  ou : H a.ou = some (.dK [(Sum.inr "tty", .ref a.lo), (Sum.inr "keys", .ref a.lp)])
  lo : H a.lo = some (.lst (ms.tty.map V.int))
  lp : H a.lp = some (.lst [])
  an : H a.an = some (.dK [(Sum.inr "tty", .ref a.la), (Sum.inr "keys", .ref a.lk)])
  la : H a.la = some (.lst [])
  lk : ∃ ps : List Addr, H a.lk = some (.lst (ps.map V.ref)) ∧ Paired (fun p (n : Int) => H p = some (.tup [.int 0, .int n])) ps ms.keys
  nd : [a.sp, a.te, a.lo, a.lp, a.la, a.lk].Nodup
  nd2 : [a.sw, a.ou, a.an].Nodup
/-- what a step changes -/
def DA.S (a : DA) : List Addr := [a.d, a.sp, a.te, a.ce, a.sw, a.lo, a.lk]
theorem DrAt.same {H H' : Hp} {a : DA} {se : List Int} {ms : Ms} (m : Same H H') (h : DrAt K H a se ms) : DrAt K H' a se ms :=
  ⟨m _ _ h.i, m _ _ h.sp, m _ _ h.se, m _ _ h.te, m _ _ h.ce, m _ _ h.sw, m _ _ h.ou, m _ _ h.lo, m _ _ h.lp, m _ _ h.an, m _ _ h.la, let ⟨ps, p, q⟩ := h.lk; ⟨ps, m _ _ p, L2.Paired.mapP q fun _ _ e => m _ _ e⟩, h.nd, h.nd2⟩
theorem ne_kind {H : Hp} {x p : Addr} {u v : HO} (hx : H x = some u) (hp : H p = some v) (n : u ≠ v) : x ≠ p := fun z => by
  rw [z, hp] at hx
  exact n (Option.some.inj hx).symm
section
variable {H : Hp} {a : DA} {se : List Int} {ms : Ms} (h : DrAt K H a se ms)
include h
theorem DrAt.setSp (l : List Int) : DrAt K (upd H a.sp (.lst (l.map V.int))) a se { ms with regs := l } := by
  have nd := h.nd
  have k : ∀ {x u}, H x = some u → (∀ l, u ≠ .lst l) → (upd H a.sp (.lst (l.map V.int))) x = some u := fun {x u} e n => (upd_ne (ne_kind e h.sp (n _))).trans e
  have kl : ∀ {x u}, H x = some u → x ≠ a.sp → (upd H a.sp (.lst (l.map V.int))) x = some u := fun {x u} e n => (upd_ne n).trans e
  obtain ⟨ps, p, q⟩ := h.lk
  exact ⟨k h.i (by simp), upd_same, k h.se (by simp), kl h.te (by intro z; simp [z] at nd), k h.ce (by simp), k h.sw (by simp), k h.ou (by simp), kl h.lo (by intro z; simp [z] at nd), kl h.lp (by intro z; simp [z] at nd), k h.an (by simp), kl h.la (by intro z; simp [z] at nd),
    ⟨ps, kl p (by intro z; simp [z] at nd), L2.Paired.mapP q fun _ _ e => k e (by simp)⟩, nd, h.nd2⟩
theorem DrAt.setTe (l : List Int) : DrAt K (upd H a.te (.lst (l.map V.int))) a se { ms with tmp := l } := by
  have nd := h.nd
  have k : ∀ {x u}, H x = some u → (∀ l, u ≠ .lst l) → (upd H a.te (.lst (l.map V.int))) x = some u := fun {x u} e n => (upd_ne (ne_kind e h.te (n _))).trans e
  have kl : ∀ {x u}, H x = some u → x ≠ a.te → (upd H a.te (.lst (l.map V.int))) x = some u := fun {x u} e n => (upd_ne n).trans e
  obtain ⟨ps, p, q⟩ := h.lk
  exact ⟨k h.i (by simp), kl h.sp (by intro z; simp [z] at nd), k h.se (by simp), upd_same, k h.ce (by simp), k h.sw (by simp), k h.ou (by simp), kl h.lo (by intro z; simp [z] at nd), kl h.lp (by intro z; simp [z] at nd), k h.an (by simp), kl h.la (by intro z; simp [z] at nd),
    ⟨ps, kl p (by intro z; simp [z] at nd), L2.Paired.mapP q fun _ _ e => k e (by simp)⟩, nd, h.nd2⟩
theorem DrAt.setLo (l : List Int) : DrAt K (upd H a.lo (.lst (l.map V.int))) a se { ms with tty := l } := by
  have nd := h.nd
  have k : ∀ {x u}, H x = some u → (∀ l, u ≠ .lst l) → (upd H a.lo (.lst (l.map V.int))) x = some u := fun {x u} e n => (upd_ne (ne_kind e h.lo (n _))).trans e
  have kl : ∀ {x u}, H x = some u → x ≠ a.lo → (upd H a.lo (.lst (l.map V.int))) x = some u := fun {x u} e n => (upd_ne n).trans e
  obtain ⟨ps, p, q⟩ := h.lk
  exact ⟨k h.i (by simp), kl h.sp (by intro z; simp [z] at nd), k h.se (by simp), kl h.te (by intro z; simp [z] at nd), k h.ce (by simp), k h.sw (by simp), k h.ou (by simp), upd_same, kl h.lp (by intro z; simp [z] at nd), k h.an (by simp), kl h.la (by intro z; simp [z] at nd),
    ⟨ps, kl p (by intro z; simp [z] at nd), L2.Paired.mapP q fun _ _ e => k e (by simp)⟩, nd, h.nd2⟩
theorem DrAt.setLk (ps : List Addr) (ks : List Int) (hp : Paired (fun p (n : Int) => H p = some (.tup [.int 0, .int n])) ps ks) : DrAt K (upd H a.lk (.lst (ps.map V.ref))) a se { ms with keys := ks } := by
  have nd := h.nd
  obtain ⟨ps0, p, q⟩ := h.lk
  have k : ∀ {x u}, H x = some u → (∀ l, u ≠ .lst l) → (upd H a.lk (.lst (ps.map V.ref))) x = some u := fun {x u} e n => (upd_ne (ne_kind e p (n _))).trans e
  have kl : ∀ {x u}, H x = some u → x ≠ a.lk → (upd H a.lk (.lst (ps.map V.ref))) x = some u := fun {x u} e n => (upd_ne n).trans e
  exact ⟨k h.i (by simp), kl h.sp (by intro z; simp [z] at nd), k h.se (by simp), kl h.te (by intro z; simp [z] at nd), k h.ce (by simp), k h.sw (by simp), k h.ou (by simp), kl h.lo (by intro z; simp [z] at nd), kl h.lp (by intro z; simp [z] at nd), k h.an (by simp), kl h.la (by intro z; simp [z] at nd),
    ⟨ps, upd_same, L2.Paired.mapP hp fun _ _ e => k e (by simp)⟩, nd, h.nd2⟩
theorem DrAt.setCe (l : List (List Key × V)) : DrAt K (upd H a.ce (.dT l)) a se { ms with cells := l } := by
  have k : ∀ {x u}, H x = some u → (∀ l, u ≠ .dT l) → (upd H a.ce (.dT l)) x = some u := fun {x u} e n => (upd_ne (ne_kind e h.ce (n _))).trans e
  obtain ⟨ps, p, q⟩ := h.lk
  exact ⟨k h.i (by simp), k h.sp (by simp), k h.se (by simp), k h.te (by simp), upd_same, k h.sw (by simp), k h.ou (by simp), k h.lo (by simp), k h.lp (by simp), k h.an (by simp), k h.la (by simp), ⟨ps, k p (by simp), L2.Paired.mapP q fun _ _ e => k e (by simp)⟩, h.nd, h.nd2⟩
theorem DrAt.setSw (f : Str → Int) : DrAt K (upd H a.sw (.dK (spK f))) a se { ms with sw := f } := by
  have nd := h.nd2
  have k : ∀ {x u}, H x = some u → (∀ l, u ≠ .dK l) → (upd H a.sw (.dK (spK f))) x = some u := fun {x u} e n => (upd_ne (ne_kind e h.sw (n _))).trans e
  have kl : ∀ {x u}, H x = some u → x ≠ a.sw → (upd H a.sw (.dK (spK f))) x = some u := fun {x u} e n => (upd_ne n).trans e
  obtain ⟨ps, p, q⟩ := h.lk
  exact ⟨k h.i (by simp), k h.sp (by simp), k h.se (by simp), k h.te (by simp), k h.ce (by simp), upd_same, kl h.ou (by intro z; simp [z] at nd), k h.lo (by simp), k h.lp (by simp), kl h.an (by intro z; simp [z] at nd), k h.la (by simp), ⟨ps, k p (by simp), L2.Paired.mapP q fun _ _ e => k e (by simp)⟩, h.nd, nd⟩
theorem DrAt.setGo (g : Option Int) : DrAt K (upd H a.d (.ins (C_Draft K) a.dx (draftFs a (gv g)))) a se { ms with goal := g } := by
  have k : ∀ {x u}, H x = some u → (∀ C d l, u ≠ .ins C d l) → (upd H a.d (.ins (C_Draft K) a.dx (draftFs a (gv g)))) x = some u := fun {x u} e n => (upd_ne (ne_kind e h.i (n _ _ _))).trans e
  obtain ⟨ps, p, q⟩ := h.lk
  exact ⟨upd_same, k h.sp (by simp), k h.se (by simp), k h.te (by simp), k h.ce (by simp), k h.sw (by simp), k h.ou (by simp), k h.lo (by simp), k h.lp (by simp), k h.an (by simp), k h.la (by simp), ⟨ps, k p (by simp), L2.Paired.mapP q fun _ _ e => k e (by simp)⟩, h.nd, h.nd2⟩
end
end
end W73
set_option Elab.async false
set_option linter.all false
set_option maxRecDepth 100000
set_option maxHeartbeats 4000000
namespace W73
open PySem PySem.Spec PyProof.Rows L2
open C8 (Cal Met Mak pe_c pe_mk pe_mt pe_mt0 pe_gc pss_cut tCut)
section
variable {P : Program} {w : World} {K : PySem.W.Frag} {mg : Str → Option Value} {base : Heap}
def Frz (a : DA) (H H' : Hp) : Prop := Same (Wo a.S H) (Wo a.S H')
theorem Frz.refl (a : DA) (H : Hp) : Frz a H H := Same.refl _
theorem Frz.trans {a : DA} {H H1 H2 : Hp} (x : Frz a H H1) (y : Frz a H1 H2) : Frz a H H2 := Same.trans x y
theorem Frz.of {a : DA} {H H' : Hp} (m : Same H H') : Frz a H H' := Wo.mono m
theorem Frz.put {a : DA} {H : Hp} {b : Addr} {o : HO} (h : b ∈ a.S) : Frz a H (upd H b o) := by
  unfold Frz
  rw [Wo.put h]
  exact Same.refl _
def rval (se : List Int) (ms : Ms) : Rf → Int
  | .op k => (ms.regs[((se[k]?).getD 0).toNat]?).getD 0
  | .tmp k => (ms.tmp[k]?).getD 0
def asg (se : List Int) (ms : Ms) (r : Rf) (w : Int) : Ms := match r with
  | .op k => { ms with regs := ms.regs.set ((se[k]?).getD 0).toNat w }
  | .tmp k => { ms with tmp := ms.tmp.set k w }
/-- a state that is well, with room for n rows more -/
structure Ms.ok (c : Cv) (se : List Int) (ms : Ms) (n : Nat) : Prop where
  t4 : ms.tmp.length = 4
  re : ∀ k ∈ se, 0 ≤ k ∧ k < ms.regs.length
  rl : ms.regs.length ≤ 1000
  ce : ∀ p ∈ ms.cells, ∃ f q w : Int, p = ([Sum.inl f, Sum.inl q], .int w) ∧ 0 ≤ f ∧ f < c.fr.length ∧ 0 ≤ q ∧ q < c.g.pl
  cl : ms.cells.length + n ≤ 100000
  tl : ms.tty.length + n ≤ 100000
theorem Ms.ok.le {c : Cv} {se : List Int} {ms : Ms} {n m : Nat} (h : ms.ok c se n) (e : m ≤ n) : ms.ok c se m := ⟨h.t4, h.re, h.rl, h.ce, by have := h.cl; omega, by have := h.tl; omega⟩
theorem asg_ok {c : Cv} {se : List Int} {ms : Ms} {n : Nat} (h : ms.ok c se n) (r : Rf) (w : Int) : (asg se ms r w).ok c se n := by
  cases r with
  | op k => exact ⟨h.t4, fun k hk => by have := h.re k hk; simpa [asg] using this, by simpa [asg] using h.rl, h.ce, h.cl, h.tl⟩
  | tmp k => exact ⟨by simpa [asg] using h.t4, h.re, h.rl, h.ce, h.cl, h.tl⟩
def sp_value (K : PySem.W.Frag) : Sp := sp2 fun x y H Q => ∃ a se ms c n r, x = .ref a.d ∧ DrAt K H a se ms ∧ ms.ok c se n ∧ TD' H r.d y ∧ r.ok se.length = true ∧ Q (.int (rval se ms r)) H
theorem ok_value (T : Tz P w K mg) : Met P w K mg base 1 (C_Draft K) "value" (sp_value K) [] := by
  refine mk_Draft_value T.toTx len2 fun f cdv A outer s H vs Q E hr h => ?_
  obtain ⟨_, _, rfl, a, se, ms, c, n, r, rfl, h, ok, td, ro, k⟩ := h
  obtain ⟨t, x, m, rfl, ht, hx⟩ := Rf.cases td
  refine ⟨_, (pss_one (ps_ret (pe_ifExp (pt_cmpR op_eq (pe_ix ix_tup (pv 1) pe_int (fun _ _ => rfl)) pe_str (nomark _)) (pe_ix ix_list (pe_fld (pv 0) rfl) (pe_ix ix_tup (pe_fld (pv 0) rfl) (pe_ix ix_tup (pv 1) pe_int (fun _ _ => rfl)) (fun _ _ => rfl)) (fun _ _ => rfl)) (pe_ix ix_list (pe_fld (pv 0) rfl) (pe_ix ix_tup (pv 1) pe_int (fun _ _ => rfl)) (fun _ _ => rfl))))), ?_⟩
  rcases hx with ⟨rfl, rfl⟩ | ⟨rfl, rfl⟩
  · have hm : m < se.length := by simpa [Rf.ok] using ro
    have hs : se[m]? = some se[m] := List.getElem?_eq_getElem hm
    obtain ⟨r0, r1⟩ := ok.re _ (List.getElem_mem hm)
    have k : Q (.int ((ms.regs[((se[m]?).getD 0).toNat]?).getD 0)) H := k
    rw [hs] at k
    dsimp only [Option.getD] at k
    generalize hj : se[m] = j at r0 r1 k hs
    obtain ⟨j, rfl⟩ := Int.eq_ofNat_of_zero_le r0
    rw [Int.toNat_natCast] at k
    have hj2 : j < ms.regs.length := by omega
    rw [List.getElem?_eq_getElem hj2] at k
    refine ⟨_, rfl, _, _, _, _, rfl, rfl, .inl (.inl ht), rfl, rfl, _, rfl, iteT ?_⟩
    refine ⟨_, rfl, a.d, _, a.dx, _, _, rfl, h.i, T.c_Draft, T.n_Draft_spots, rfl, _, rfl, a.d, _, a.dx, _, _, rfl, h.i, T.c_Draft, T.n_Draft_seats, rfl, _, rfl, _, _, _, _, rfl, rfl, .inl (.inl ht), rfl, _, _, _, .int (j : Nat), rfl, rfl, .inl (.inl h.se), atI_nat (by rw [List.getElem?_map, hs]; rfl), ?_⟩
    exact ⟨_, _, _, .int ms.regs[j], rfl, rfl, .inl (.inl h.sp), atI_nat (by rw [List.getElem?_map, List.getElem?_eq_getElem hj2]; rfl), k⟩
  · have hm : m < 4 := by simpa [Rf.ok] using ro
    have hj2 : m < ms.tmp.length := by rw [ok.t4]; exact hm
    have k : Q (.int ((ms.tmp[m]?).getD 0)) H := k
    rw [List.getElem?_eq_getElem hj2] at k
    refine ⟨_, rfl, _, _, _, _, rfl, rfl, .inl (.inl ht), rfl, rfl, _, rfl, iteF ?_⟩
    exact ⟨_, rfl, a.d, _, a.dx, _, _, rfl, h.i, T.c_Draft, T.n_Draft_temporaries, rfl, _, rfl, _, _, _, _, rfl, rfl, .inl (.inl ht), rfl, _, _, _, .int ms.tmp[m], rfl, rfl, .inl (.inl h.te), atI_nat (by rw [List.getElem?_map, List.getElem?_eq_getElem hj2]; rfl), k⟩
theorem ixN_nat {n j : Nat} (h : j < n) : ixN n (j : Int) = some j := by
  unfold ixN
  rw [if_pos (by omega), if_pos (by omega), Int.toNat_natCast]
def sp_assign (K : PySem.W.Frag) : Sp := sp3 fun x y z H Q => ∃ a se ms c n r w', x = .ref a.d ∧ DrAt K H a se ms ∧ ms.ok c se n ∧ TD' H r.d y ∧ r.ok se.length = true ∧ z = .int w' ∧ ∀ H', Frz a H H' → DrAt K H' a se (asg se ms r w') → Q .non H'
theorem ok_assign (T : Tz P w K mg) : Met P w K mg base 1 (C_Draft K) "assign" (sp_assign K) [] := by
  refine mk_Draft_assign T.toTx len3 fun f cdv A outer s H vs Q E hr h => ?_
  obtain ⟨_, _, _, rfl, a, se, ms, c, n, r, w', rfl, h, ok, td, ro, rfl, k⟩ := h
  obtain ⟨t, x, m, rfl, ht, hx⟩ := Rf.cases td
  refine ⟨_, (pss_one (ps_if (pt_cmpR op_eq (pe_ix ix_tup (pv 1) pe_int (fun _ _ => rfl)) pe_str (nomark _)) (pss_one (ps_asg (pv 2) (pg_sub (pe_fld (pv 0) rfl) (pe_ix ix_tup (pe_fld (pv 0) rfl) (pe_ix ix_tup (pv 1) pe_int (fun _ _ => rfl)) (fun _ _ => rfl)) set_list))) (pss_one (ps_asg (pv 2) (pg_sub (pe_fld (pv 0) rfl) (pe_ix ix_tup (pv 1) pe_int (fun _ _ => rfl)) set_list))))), ?_⟩
  rcases hx with ⟨rfl, rfl⟩ | ⟨rfl, rfl⟩
  · have hm : m < se.length := by simpa [Rf.ok] using ro
    have hs : se[m]? = some se[m] := List.getElem?_eq_getElem hm
    obtain ⟨r0, r1⟩ := ok.re _ (List.getElem_mem hm)
    have k : ∀ H', Frz a H H' → DrAt K H' a se { ms with regs := ms.regs.set ((se[m]?).getD 0).toNat w' } → Q .non H' := k
    rw [hs] at k
    dsimp only [Option.getD] at k
    generalize hj : se[m] = j at r0 r1 k hs
    obtain ⟨j, rfl⟩ := Int.eq_ofNat_of_zero_le r0
    rw [Int.toNat_natCast] at k
    have hj2 : j < ms.regs.length := by omega
    refine ⟨_, rfl, _, _, _, _, rfl, rfl, .inl (.inl ht), rfl, rfl, _, rfl, iteT ?_⟩
    refine ⟨_, rfl, _, rfl, a.d, _, a.dx, _, _, rfl, h.i, T.c_Draft, T.n_Draft_spots, rfl, _, rfl, a.d, _, a.dx, _, _, rfl, h.i, T.c_Draft, T.n_Draft_seats, rfl, _, rfl, _, _, _, _, rfl, rfl, .inl (.inl ht), rfl, _, _, _, .int (j : Nat), rfl, rfl, .inl (.inl h.se), atI_nat (by rw [List.getElem?_map, hs]; rfl), ?_⟩
    refine ⟨_, _, _, j, rfl, rfl, h.sp, ixN_nat (by simpa using hj2), ?_⟩
    rw [← List.map_set]
    exact k _ (.put (by simp [DA.S])) (h.setSp _)
  · have hm : m < 4 := by simpa [Rf.ok] using ro
    have hj2 : m < ms.tmp.length := by rw [ok.t4]; exact hm
    refine ⟨_, rfl, _, _, _, _, rfl, rfl, .inl (.inl ht), rfl, rfl, _, rfl, iteF ?_⟩
    refine ⟨_, rfl, _, rfl, a.d, _, a.dx, _, _, rfl, h.i, T.c_Draft, T.n_Draft_temporaries, rfl, _, rfl, _, _, _, _, rfl, rfl, .inl (.inl ht), rfl, ?_⟩
    refine ⟨_, _, _, m, rfl, rfl, h.te, ixN_nat (by simpa using hj2), ?_⟩
    rw [← List.map_set]
    exact k _ (.put (by simp [DA.S])) (h.setTe _)
end
end W73
set_option Elab.async false
set_option linter.all false
set_option maxRecDepth 100000
set_option maxHeartbeats 4000000
namespace W73
open PySem PySem.Spec PyProof.Rows L2
open C8 (Cal Met Mak pe_c pe_mk pe_mt pe_mt0 pe_gc pss_cut tCut)
section
variable {P : Program} {w : World} {K : PySem.W.Frag} {mg : Str → Option Value} {base : Heap}
def rdc (c : Cv) (ms : Ms) (f p : Int) : Int := match valV ms.cells [Sum.inl f, Sum.inl p] with
  | some (.int w) => w
  | _ => wat c.fr f p
def step0 (c : Cv) (se : List Int) (ms : Ms) : R0 → Ms × Option D
  | .move a b => (asg se ms a (rval se ms b), none)
  | .prim a p l => (asg se ms a (c.g.ap p (l.map (rval se ms))), none)
  | .load a b => match spt c (rval se ms b) 114 with
    | none => (ms, some (.t [.s "refused", .i (rval se ms b), .s "r"]))
    | some (f, p) => (asg se ms a (rdc c ms f p), none)
  | .store a b => match spt c (rval se ms a) 119 with
    | none => (ms, some (.t [.s "refused", .i (rval se ms a), .s "w"]))
    | some (f, p) => ({ ms with cells := putK ms.cells [Sum.inl f, Sum.inl p] (.int (rval se ms b)) }, none)
  | .goto a => ({ ms with goal := some (rval se ms a) }, none)
  | .get a x => (asg se ms a (ms.sw x), none)
  | .put x a => ({ ms with sw := fun y => if y = x then rval se ms a else ms.sw y }, none)
  | .inn a => (asg se { ms with keys := ms.keys.tail } a (ms.keys.headD 0), none)
  | .out a => ({ ms with tty := ms.tty ++ [rval se ms a] }, none)
  | .trap x => (ms, some (R0.trap x).d)
theorem step0_ok {c : Cv} {se : List Int} {ms : Ms} {n : Nat} (hc : c.ok) (h : ms.ok c se (n + 1)) (r : R0) : (step0 c se ms r).1.ok c se n := by
  have h0 := h.le (Nat.le_succ n)
  cases r with
  | move a b => exact asg_ok h0 _ _
  | prim a p l => exact asg_ok h0 _ _
  | load a b =>
    simp only [step0]
    cases e : spt c (rval se ms b) 114 with
    | none => exact h0
    | some z => exact asg_ok h0 _ _
  | store a b =>
    simp only [step0]
    cases e : spt c (rval se ms a) 119 with
    | none => exact h0
    | some z =>
      obtain ⟨f, p⟩ := z
      obtain ⟨⟨f0, f1⟩, p0, p1⟩ := spt_in hc e
      refine ⟨h.t4, h.re, h.rl, fun q hq => ?_, ?_, h0.tl⟩
      · rcases putK_mem hq with hq | rfl
        · exact h.ce q hq
        · exact ⟨f, p, _, rfl, f0, f1, p0, p1⟩
      · have := length_putK ms.cells [Sum.inl f, Sum.inl p] (.int (rval se ms b))
        have := h.cl
        show (putK _ _ _).length + n ≤ _
        omega
  | goto a => exact ⟨h0.t4, h0.re, h0.rl, h0.ce, h0.cl, h0.tl⟩
  | get a x => exact asg_ok h0 _ _
  | put x a => exact ⟨h0.t4, h0.re, h0.rl, h0.ce, h0.cl, h0.tl⟩
  | inn a => exact asg_ok (ms := { ms with keys := ms.keys.tail }) ⟨h0.t4, h0.re, h0.rl, h0.ce, h0.cl, h0.tl⟩ _ _
  | out a => exact ⟨h0.t4, h0.re, h0.rl, h0.ce, h0.cl, by have := h.tl; simp [step0]; omega⟩
  | trap x => exact h0
def sp_taken (K : PySem.W.Frag) : Sp := sp2 fun x y H Q => ∃ a se ms c, x = .ref a.d ∧ DrAt K H a se ms ∧ ViewAt K H a.v c ∧ y = .str "keys" ∧ ∀ H', Frz a H H' → DrAt K H' a se { ms with keys := ms.keys.tail } → Q (.int (ms.keys.headD 0)) H'
theorem ok_taken (T : Tz P w K mg) : Met P w K mg base 1 (C_Draft K) "taken" (sp_taken K) [] := by
  refine mk_Draft_taken T.toTx len2 fun f cdv A outer s H vs Q E hr h => ?_
  obtain ⟨_, _, rfl, a, se, ms, c, rfl, h, ⟨vdx, m, F, sp, o, q, mp, hv, _⟩, rfl, k⟩ := h
  have hu := hu_of hr
  obtain ⟨ps, hk, hp⟩ := h.lk
  refine ⟨_, (pss_cons (ps_set (i := 2) sc_Draft_taken.nd rfl (Or.inl rfl) (pe_dget hu (pe_fld (pv 0) rfl) (pv 1) (fun _ _ => rfl)))
    (pss_cons (ps_if (PW.pt (pw_or (pt_cmpR (op_eqLE hr.units0) (pv 2) (pe_lst pa_nil) (nomark _)) (pw_or1 (pt_cmpR op_gt (pe_ix ix_tup (pe_ix ix_list (pv 2) pe_int (fun _ _ => rfl)) pe_int (fun _ _ => rfl)) (pe_fld (pe_fld (pv 0) rfl) rfl) (nomark _))))) (pss_one (ps_ret pe_int)) pss_nil)
    (pss_one (ps_ret (pe_ix ix_tup (pe_bm PySem.F.plainAttrs_list PySem.F.slot_list_pop PySem.F.type_list_pop mt_popAt (pv 2) (pa_cons pe_int pa_nil)) pe_int (fun _ _ => rfl)))))), ?_⟩
  refine ⟨_, rfl, a.d, _, a.dx, _, _, rfl, h.i, T.c_Draft, T.n_Draft_answer_rows, rfl, _, rfl, a.an, .ref a.lk, rfl, .inl ⟨_, Sum.inr "keys", .inl h.an, rfl, rfl⟩, ?_⟩
  refine ⟨_, rfl, by show 0 ≤ sizeLine; decide, fun l hl => ⟨a.lk, l, ps.map V.ref, rfl, rfl, .inl (.inl (Same.new hl _ _ hk)), .inl (.inl upd_same), _, rfl, ?_⟩⟩
  have m1 := Same.new (o := .lst []) hl
  generalize upd H l (.lst []) = H1 at m1 ⊢
  have h1 := h.same m1
  cases hks : ms.keys with
  | nil =>
    rw [hks] at hp k
    cases hp
    refine iteT (k H1 (.of m1) ?_)
    have e : ({ ms with keys := ([] : List Int).tail } : Ms) = ms := by
      cases ms
      simp at hks
      subst hks
      rfl
    rw [e]
    exact h1
  | cons n ks =>
    rw [hks] at hp k
    cases hp with
    | @cons p _ ps' _ hp0 hp =>
      refine iteF ?_
      refine ⟨_, rfl, _, _, _, .ref p, rfl, rfl, .inl (.inl (m1 _ _ hk)), atI_nat (j := 0) rfl, _, _, _, _, rfl, rfl, .inl (.inl (m1 _ _ hp0)), rfl, _, rfl, a.d, _, a.dx, _, _, rfl, h1.i, T.c_Draft, T.n_Draft_view, rfl, a.v, _, vdx, _, _, rfl, m1 _ _ hv, T.c_BoxView, T.n_BoxView_moment, rfl, _, _, rfl, rfl, _, rfl, iN (by simp) ?_⟩
      have hs := h1.setLk (K := K) ps' ks (L2.Paired.mapP hp fun _ _ e => m1 _ _ e)
      have hf : Frz a H (upd H1 a.lk (.lst (ps'.map V.ref))) := (Frz.of m1).trans (.put (by simp [DA.S]))
      have np : (upd H1 a.lk (.lst (ps'.map V.ref))) p = some (.tup [.int 0, .int n]) := (upd_ne (ne_kind (m1 _ _ hp0) (m1 _ _ hk) (by simp))).trans (m1 _ _ hp0)
      refine ⟨_, rfl, .inl ⟨rfl, _, .inl (.inl (m1 _ _ hk))⟩, a.lk, _, 0, 0, .ref p, rfl, rfl, m1 _ _ hk, by decide, by decide, (ixN_seq (ixN_nat (j := 0) (by simp))).1, rfl, ?_⟩
      exact ⟨_, _, _, _, rfl, rfl, .inl (.inl np), rfl, k _ hf hs⟩
end
end W73
set_option Elab.async false
set_option linter.all false
set_option maxRecDepth 100000
set_option maxHeartbeats 4000000
namespace W73
open PySem PySem.Spec PyProof.Rows L2
open C8 (Cal Met Mak pe_c pe_mk pe_mt pe_mt0 pe_gc pss_cut tCut)
section
variable {P : Program} {w : World} {K : PySem.W.Frag} {mg : Str → Option Value} {base : Heap}
/-- all that a step leans on -/
structure Dn (K : PySem.W.Frag) (H : Hp) (a : DA) (se : List Int) (ms : Ms) (c : Cv) (n : Nat) : Prop where
  dr : DrAt K H a se ms
  vw : ViewAt K (Wo a.S H) a.v c
  ok : ms.ok c se n
  co : c.ok
theorem Dn.next {H H' : Hp} {a : DA} {se : List Int} {ms ms' : Ms} {c : Cv} {n n' : Nat} (h : Dn K H a se ms c n) (f : Frz a H H') (d : DrAt K H' a se ms') (o : ms'.ok c se n') : Dn K H' a se ms' c n' := ⟨d, h.vw.same f, o, h.co⟩
theorem Dn.same {H H' : Hp} {a : DA} {se : List Int} {ms : Ms} {c : Cv} {n : Nat} (h : Dn K H a se ms c n) (m : Same H H') : Dn K H' a se ms c n := ⟨h.dr.same m, h.vw.same (Wo.mono m), h.ok, h.co⟩
theorem Dn.view {H : Hp} {a : DA} {se : List Int} {ms : Ms} {c : Cv} {n : Nat} (h : Dn K H a se ms c n) : ViewAt K H a.v c := h.vw.same Wo.to
theorem Frz.tps {a : DA} {H H' : Hp} {K : PySem.W.Frag} {se : List Int} {ms : Ms} (f : Frz a H H') (h : DrAt K H a se ms) : Tps H H' := fun b xs e => by
  have nb : b ∉ a.S := fun hb => by
    simp only [DA.S, List.mem_cons, List.not_mem_nil, or_false] at hb
    obtain ⟨ps, p, q⟩ := h.lk
    rcases hb with rfl | rfl | rfl | rfl | rfl | rfl | rfl
    · rw [h.i] at e; cases e
    · rw [h.sp] at e; cases e
    · rw [h.te] at e; cases e
    · rw [h.ce] at e; cases e
    · rw [h.sw] at e; cases e
    · rw [h.lo] at e; cases e
    · rw [p] at e; cases e
  exact Wo.to _ _ (f _ _ (Wo.at e nb))
theorem two_refs {H : Hp} {nm : Str} {a b : Rf} {v : V} (h : TD' H (.t [.s nm, a.d, b.d]) v) : ∃ t x y, v = .ref t ∧ H t = some (.tup [.str nm, x, y]) ∧ TD' H a.d x ∧ TD' H b.d y := by
  obtain ⟨t, us, rfl, ht, ts⟩ := h.tup
  cases ts with
  | cons t1 ts =>
  cases ts with
  | cons t2 ts =>
  cases ts with
  | cons t3 ts =>
  cases ts
  cases t1
  exact ⟨t, _, _, rfl, ht, t2, t3⟩
def sp_touch (K : PySem.W.Frag) : Sp := sp2 fun x y H Q => ∃ a se ms c n r, x = .ref a.d ∧ Dn K H a se ms c n ∧ TD' H (R0.d r) y ∧ ((∃ p q, r = .load p q) ∨ ∃ p q, r = .store p q) ∧ r.ok se.length = true ∧ ms.cells.length < 200000 ∧
  ∀ v H', Frz a H H' → DrAt K H' a se (step0 c se ms r).1 → (match (step0 c se ms r).2 with | none => v = .non | some d => TD' H' d v) → Q v H'
theorem ok_touch (T : Tz P w K mg) : Met P w K mg base 3 (C_Draft K) "touch" (sp_touch K) [] := by
  have c_Draft_value : Met P w K mg base 1 (C_Draft K) "value" (sp_value K) [] := ok_value T
  have c_Draft_assign : Met P w K mg base 1 (C_Draft K) "assign" (sp_assign K) [] := ok_assign T
  have c_BoxView_spot_of : Met P w K mg base 2 (C_BoxView K) "spot_of" (sp_spot_of K) [] := ok_spot_of T
  have c_BoxView_word_at : Met P w K mg base 1 (C_BoxView K) "word_at" (sp_word_at K) [] := ok_word_at T
  refine mk_Draft_touch T.toTx len2 fun f cdv A outer s H vs Q E hr h => ?_
  obtain ⟨_, _, rfl, a, se, ms, c, n, r, rfl, h, td, hrr, ro, hcl, k⟩ := h
  have hu := hu_of hr
  have hz := sizeL
  have hi := h.dr.i
  have vw := h.view
  have ⟨vdx, _, _, _, _, _, _, hv, _⟩ := vw
  refine ⟨_, (pss_cons (ps_par (i := 2) (j := 3) rfl sc_Draft_touch.nd rfl rfl (by decide) rfl rfl (pa_cons (pe_mt c_Draft_value hr (by first | decide | omega) (pv 0) (pa_cons (pe_ifExp (pt_cmpR op_eq (pe_ix ix_tup (pv 1) pe_int (fun _ _ => rfl)) pe_str (nomark _)) (pe_ix ix_tup (pv 1) pe_int (fun _ _ => rfl)) (pe_ix ix_tup (pv 1) pe_int (fun _ _ => rfl))) pa_nil)) (pa_cons (pe_ifExp (pt_cmpR op_eq (pe_ix ix_tup (pv 1) pe_int (fun _ _ => rfl)) pe_str (nomark _)) pe_str pe_str) pa_nil)) (by rfl))
    (pss_cons (ps_set (i := 4) sc_Draft_touch.nd rfl (Or.inl rfl) (pe_mt c_BoxView_spot_of hr (by first | decide | omega) (pe_fld (pv 0) rfl) (pa_cons (pv 2) (pa_cons (pv 3) pa_nil))))
    (pss_cons (ps_if (pt_cmpR op_isN (pv 4) pe_non (nomark _)) (pss_one (ps_ret (pe_tup (pa_cons pe_str (pa_cons (pv 2) (pa_cons (pv 3) pa_nil)))))) pss_nil)
    (pss_cons (ps_if (pt_cmpR op_eq (pe_ix ix_tup (pv 1) pe_int (fun _ _ => rfl)) pe_str (nomark _)) (pss_one (ps_dput hu (pe_fld (pv 0) rfl) (pv 4) (pe_mt c_Draft_value hr (by first | decide | omega) (pv 0) (pa_cons (pe_ix ix_tup (pv 1) pe_int (fun _ _ => rfl)) pa_nil)) rfl)) (pss_one (ps_expr (pe_mt c_Draft_assign hr (by first | decide | omega) (pv 0) (pa_cons (pe_ix ix_tup (pv 1) pe_int (fun _ _ => rfl)) (pa_cons (pe_ifExp (pt_cmp (pc_din hu (pv 4) (pe_fld (pv 0) rfl))) (pe_dget hu (pe_fld (pv 0) rfl) (pv 4) (fun _ _ => rfl)) (pe_mt c_BoxView_word_at hr (by first | decide | omega) (pe_fld (pv 0) rfl) (pa_cons (pv 4) pa_nil))) pa_nil))))))
    (pss_one (ps_ret pe_non)))))), ?_⟩
  rcases hrr with ⟨p, q, rfl⟩ | ⟨p, q, rfl⟩
  · obtain ⟨t, x, y, rfl, ht, tx, ty⟩ := two_refs td
    simp only [R0.ok, Bool.and_eq_true] at ro
    refine ⟨_, rfl, a.d, a.dx, _, rfl, hi, rfl, _, rfl, _, _, _, _, rfl, rfl, .inl (.inl ht), rfl, rfl, _, rfl, iteT ?_⟩
    refine ⟨_, rfl, _, _, _, _, rfl, rfl, .inl (.inl ht), rfl, _, _, rfl, a, se, ms, c, n, q, rfl, h.dr, h.ok, ty, ro.2, ?_⟩
    refine ⟨_, rfl, _, _, _, _, rfl, rfl, .inl (.inl ht), rfl, rfl, _, rfl, iteT ?_⟩
    refine ⟨_, _, rfl, ?_⟩
    refine ⟨_, rfl, a.d, _, a.dx, _, _, rfl, hi, T.c_Draft, T.n_Draft_view, rfl, a.v, vdx, _, rfl, hv, rfl, _, rfl, _, rfl, _, _, _, rfl, a.v, c, rval se ms q, 114, rfl, vw, h.co, rfl, congrArg V.str rt_r, fun e => ?_, fun ff pp e t2 H2 m2 ht2 et2 => ?_⟩
    · refine ⟨_, rfl, rfl, _, rfl, iteT ⟨_, rfl, _, rfl, by show 3 ≤ sizeLine; decide, fun t3 ht3 => ?_⟩⟩
      have m3 := Same.new (o := .tup [.str "refused", .int (rval se ms q), .str "r"]) ht3
      refine k _ _ (.of m3) ?_ ?_ <;> simp only [step0, e]
      · exact h.dr.same m3
      · exact .t upd_same (.cons (.s _) (.cons (.i _) (.cons (.s _) .nil)))
    · have hi2 := m2 _ _ hi
      have ht' := m2 _ _ ht
      have d2 := h.dr.same m2
      have vw2 := vw.same m2
      have ⟨vdx2, _, _, _, _, _, _, hv2, _⟩ := vw2
      obtain ⟨⟨f0, f1⟩, p0, p1⟩ := spt_in h.co e
      have go : ∀ w' : Int, w' = rdc c ms ff pp → ∀ H3, Frz a H2 H3 → DrAt K H3 a se (asg se ms p w') → Q .non H3 := fun w' ew H3 f3 d3 => by
        refine k _ _ ((Frz.of m2).trans f3) ?_ ?_ <;> simp only [step0, e]
        rw [← ew]
        exact d3
      refine ⟨_, rfl, rfl, _, rfl, iteF ?_⟩
      refine ⟨_, rfl, _, _, _, _, rfl, rfl, .inl (.inl ht'), rfl, rfl, _, rfl, iteF ?_⟩
      refine ⟨_, rfl, a.d, a.dx, _, rfl, hi2, rfl, _, rfl, _, _, _, _, rfl, rfl, .inl (.inl ht'), rfl, ?_⟩
      refine ⟨_, rfl, _, rfl, a.d, _, a.dx, _, _, rfl, hi2, T.c_Draft, T.n_Draft_cells, rfl, a.ce, _, rfl, .inr ⟨_, [Sum.inl ff, Sum.inl pp], t2, .inl d2.ce, rfl, et2, rfl⟩, _, rfl, ?_⟩
      cases hc : valV ms.cells [Sum.inl ff, Sum.inl pp] with
      | some z =>
        obtain ⟨ff2, pp2, w', ez, _⟩ := h.ok.ce _ (valV_mem hc)
        obtain rfl : z = .int w' := (Prod.mk.inj ez).2
        refine iteT ⟨_, rfl, a.d, _, a.dx, _, _, rfl, hi2, T.c_Draft, T.n_Draft_cells, rfl, _, rfl, a.ce, .int w', rfl, .inr ⟨_, [Sum.inl ff, Sum.inl pp], t2, .inl d2.ce, rfl, et2, hc.symm⟩, ?_⟩
        exact ⟨_, _, _, rfl, a, se, ms, c, n, p, w', rfl, d2, h.ok, tx.mono (.of m2), ro.1, rfl, fun H3 f3 d3 => go w' (by unfold rdc; rw [hc]) H3 f3 d3⟩
      | none =>
        refine iteF ⟨_, rfl, a.d, _, a.dx, _, _, rfl, hi2, T.c_Draft, T.n_Draft_view, rfl, a.v, vdx2, _, rfl, hv2, rfl, _, rfl, _, _, rfl, a.v, c, t2, ff, pp, rfl, vw2, h.co, rfl, et2, f0, f1, p0, p1, ?_⟩
        exact ⟨_, _, _, rfl, a, se, ms, c, n, p, _, rfl, d2, h.ok, tx.mono (.of m2), ro.1, rfl, fun H3 f3 d3 => go _ (by unfold rdc; rw [hc]) H3 f3 d3⟩
  · obtain ⟨t, x, y, rfl, ht, tx, ty⟩ := two_refs td
    simp only [R0.ok, Bool.and_eq_true] at ro
    refine ⟨_, rfl, a.d, a.dx, _, rfl, hi, rfl, _, rfl, _, _, _, _, rfl, rfl, .inl (.inl ht), rfl, rfl, _, rfl, iteF ?_⟩
    refine ⟨_, rfl, _, _, _, _, rfl, rfl, .inl (.inl ht), rfl, _, _, rfl, a, se, ms, c, n, p, rfl, h.dr, h.ok, tx, ro.1, ?_⟩
    refine ⟨_, rfl, _, _, _, _, rfl, rfl, .inl (.inl ht), rfl, rfl, _, rfl, iteF ?_⟩
    refine ⟨_, _, rfl, ?_⟩
    refine ⟨_, rfl, a.d, _, a.dx, _, _, rfl, hi, T.c_Draft, T.n_Draft_view, rfl, a.v, vdx, _, rfl, hv, rfl, _, rfl, _, rfl, _, _, _, rfl, a.v, c, rval se ms p, 119, rfl, vw, h.co, rfl, congrArg V.str rt_w, fun e => ?_, fun ff pp e t2 H2 m2 ht2 et2 => ?_⟩
    · refine ⟨_, rfl, rfl, _, rfl, iteT ⟨_, rfl, _, rfl, by show 3 ≤ sizeLine; decide, fun t3 ht3 => ?_⟩⟩
      have m3 := Same.new (o := .tup [.str "refused", .int (rval se ms p), .str "w"]) ht3
      refine k _ _ (.of m3) ?_ ?_ <;> simp only [step0, e]
      · exact h.dr.same m3
      · exact .t upd_same (.cons (.s _) (.cons (.i _) (.cons (.s _) .nil)))
    · have hi2 := m2 _ _ hi
      have ht' := m2 _ _ ht
      have d2 := h.dr.same m2
      refine ⟨_, rfl, rfl, _, rfl, iteF ?_⟩
      refine ⟨_, rfl, _, _, _, _, rfl, rfl, .inl (.inl ht'), rfl, rfl, _, rfl, iteT ?_⟩
      refine ⟨_, rfl, a.d, a.dx, _, rfl, hi2, rfl, _, rfl, _, _, _, _, rfl, rfl, .inl (.inl ht'), rfl, _, _, rfl, a, se, ms, c, n, q, rfl, d2, h.ok, ty.mono (.of m2), ro.2, ?_⟩
      refine ⟨_, rfl, a.d, _, a.dx, _, _, rfl, hi2, T.c_Draft, T.n_Draft_cells, rfl, _, rfl, a.ce, _, rfl, DPut.t (k := [Sum.inl ff, Sum.inl pp]) d2.ce et2 (by omega), ?_⟩
      refine k _ _ ((Frz.of m2).trans (.put (by simp [DA.S]))) ?_ ?_ <;> simp only [step0, e]
      exact d2.setCe _
end
end W73
set_option Elab.async false
set_option linter.all false
set_option maxRecDepth 100000
set_option maxHeartbeats 4000000
namespace W73
open PySem PySem.Spec PyProof.Rows L2
open C8 (Cal Met Mak pe_c pe_mk pe_mt pe_mt0 pe_gc pss_cut tCut)
section
variable {P : Program} {w : World} {K : PySem.W.Frag} {mg : Str → Option Value} {base : Heap}
theorem yesI {σ : L2.St} {H : Hp} {A B : Hp → Prop} (h : A H) : tYes σ H fun b H3 => if b = true then A H3 else B H3 := by
  show if true = true then A H else B H
  rw [if_pos rfl]
  exact h
def R0.plain : R0 → Bool
  | .load _ _ => false
  | .store _ _ => false
  | .trap _ => false
  | _ => true
theorem refs_data {H : Hp} {vs : List V} : ∀ {l : List Rf}, TDs H (l.map Rf.d) vs → ∀ {i : Nat} {v : V}, vs[i]? = some v → ∃ r, l[i]? = some r ∧ TD' H r.d v := fun {l} t {i v} h => by
  obtain ⟨d, hd, td⟩ := TDs.get' t h
  rw [List.getElem?_map] at hd
  obtain ⟨r, hr, rfl⟩ := Option.map_eq_some_iff.mp hd
  exact ⟨r, hr, td⟩
def sp_settle (K : PySem.W.Frag) : Sp := sp2 fun x y H Q => ∃ a se ms c n r, x = .ref a.d ∧ Dn K H a se ms c n ∧ TD' H (R0.d r) y ∧ r.plain = true ∧ r.ok se.length = true ∧ ∀ H', Frz a H H' → DrAt K H' a se (step0 c se ms r).1 → Q .non H'
theorem ok_settle (T : Tz P w K mg) : Met P w K mg base 4 (C_Draft K) "settle" (sp_settle K) [] := by
  have c_Draft_value : Met P w K mg base 1 (C_Draft K) "value" (sp_value K) [] := ok_value T
  have c_Draft_assign : Met P w K mg base 1 (C_Draft K) "assign" (sp_assign K) [] := ok_assign T
  have c_Draft_taken : Met P w K mg base 1 (C_Draft K) "taken" (sp_taken K) [] := ok_taken T
  have c_Meaning_apply : Met P w K mg base 2 (C_Meaning K) "apply" (sp_Meaning_apply K) [] := ok_Meaning_apply T
  refine mk_Draft_settle T.toTx len2 fun f cdv A outer s H vs Q E hr h => ?_
  obtain ⟨_, _, rfl, a, se, ms, c, n, r, rfl, h, td, hpl, ro, k⟩ := h
  have hu := hu_of hr
  have hz := sizeL
  have hi := h.dr.i
  have vw := h.view
  refine ⟨_, (pss_cons (ps_set (i := 2) sc_Draft_settle.nd rfl (Or.inl rfl) (pe_ix ix_tup (pv 1) pe_int (fun _ _ => rfl)))
    (pss_one (ps_if (pt_cmpR op_eq (pv 2) pe_str (nomark _)) (pss_one (ps_expr (pe_mt c_Draft_assign hr (by first | decide | omega) (pv 0) (pa_cons (pe_ix ix_tup (pv 1) pe_int (fun _ _ => rfl)) (pa_cons (pe_mt c_Draft_value hr (by first | decide | omega) (pv 0) (pa_cons (pe_ix ix_tup (pv 1) pe_int (fun _ _ => rfl)) pa_nil)) pa_nil))))) (pss_one (ps_if (pt_cmpR op_eq (pv 2) pe_str (nomark _)) (pss_cons (ps_set (i := 3) sc_Draft_settle.nd rfl (Or.inl rfl) (pe_callTy call_tuple_of (by rfl) T.b_tuple boot_tuple (pa_cons (pe_lc  (own := [("ref", 4)]) (g := gName 4) (tt := tYes) rfl sc_Draft_settle.nd (pi_tup (pe_ix ix_tup (pv 1) pe_int (fun _ _ => rfl))) (blkOk_by (N := ["self", "row", "word", "given", "ref"]) (sc := defScope s_Draft_settle) (by decide +kernel)) (fun _ _ _ _ _ => (pg_name (i := 4) sc_Draft_settle.nd rfl (Or.inl rfl))) (fun _ _ _ _ _ => pts_nil) (fun _ _ _ _ _ => (pe_mt c_Draft_value hr (by first | decide | omega) (pv 0) (pa_cons (pv 4) pa_nil)))) pa_nil)))
    (pss_one (ps_expr (pe_mt c_Draft_assign hr (by first | decide | omega) (pv 0) (pa_cons (pe_ix ix_tup (pv 1) pe_int (fun _ _ => rfl)) (pa_cons (pe_mt c_Meaning_apply hr (by first | decide | omega) (pe_fld (pe_fld (pv 0) rfl) rfl) (pa_cons (pe_ix ix_tup (pv 1) pe_int (fun _ _ => rfl)) (pa_cons (pv 3) pa_nil))) pa_nil)))))) (pss_one (ps_if (pt_cmpR op_eq (pv 2) pe_str (nomark _)) (pss_one (ps_expr (pe_mt c_Draft_assign hr (by first | decide | omega) (pv 0) (pa_cons (pe_ix ix_tup (pv 1) pe_int (fun _ _ => rfl)) (pa_cons (pe_dget hu (pe_fld (pv 0) rfl) (pe_ix ix_tup (pv 1) pe_int (fun _ _ => rfl)) (fun _ _ => rfl)) pa_nil))))) (pss_one (ps_if (pt_cmpR op_eq (pv 2) pe_str (nomark _)) (pss_one (ps_dput hu (pe_fld (pv 0) rfl) (pe_ix ix_tup (pv 1) pe_int (fun _ _ => rfl)) (pe_mt c_Draft_value hr (by first | decide | omega) (pv 0) (pa_cons (pe_ix ix_tup (pv 1) pe_int (fun _ _ => rfl)) pa_nil)) rfl)) (pss_one (ps_if (pt_cmpR op_eq (pv 2) pe_str (nomark _)) (pss_one (ps_expr (pe_mt c_Draft_assign hr (by first | decide | omega) (pv 0) (pa_cons (pe_ix ix_tup (pv 1) pe_int (fun _ _ => rfl)) (pa_cons (pe_mt c_Draft_taken hr (by first | decide | omega) (pv 0) (pa_cons (pe_ix ix_tup (pv 1) pe_int (fun _ _ => rfl)) pa_nil)) pa_nil))))) (pss_one (ps_if (pt_cmpR op_eq (pv 2) pe_str (nomark _)) (pss_one (ps_expr (pe_bm PySem.F.plainAttrs_list PySem.F.slot_list_append PySem.F.type_list_append mt_append (pe_dget hu (pe_fld (pv 0) rfl) (pe_ix ix_tup (pv 1) pe_int (fun _ _ => rfl)) (fun _ _ => rfl)) (pa_cons (pe_mt c_Draft_value hr (by first | decide | omega) (pv 0) (pa_cons (pe_ix ix_tup (pv 1) pe_int (fun _ _ => rfl)) pa_nil)) pa_nil)))) (pss_one (ps_fld (pv 0) (pe_mt c_Draft_value hr (by first | decide | omega) (pv 0) (pa_cons (pe_ix ix_tup (pv 1) pe_int (fun _ _ => rfl)) pa_nil)) rfl))))))))))))))), ?_⟩
  have sel : ∀ {b : Prop}, b → b := fun h => h
  cases r with
  | load p q => cases hpl
  | store p q => cases hpl
  | trap p => cases hpl
  | move p q =>
    obtain ⟨t, x, y, rfl, ht, tx, ty⟩ := two_refs td
    simp only [R0.ok, Bool.and_eq_true] at ro
    refine ⟨_, rfl, _, _, _, _, rfl, rfl, .inl (.inl ht), rfl, _, rfl, rfl, _, rfl, iteT ?_⟩
    refine ⟨_, rfl, a.d, a.dx, _, rfl, hi, rfl, _, rfl, _, _, _, _, rfl, rfl, .inl (.inl ht), rfl, _, rfl, a.d, a.dx, _, rfl, hi, rfl, _, rfl, _, _, _, _, rfl, rfl, .inl (.inl ht), rfl, _, _, rfl, a, se, ms, c, n, q, rfl, h.dr, h.ok, ty, ro.2, ?_⟩
    exact ⟨_, _, _, rfl, a, se, ms, c, n, p, _, rfl, h.dr, h.ok, tx, ro.1, rfl, fun H2 f2 d2 => k H2 f2 d2⟩
  | goto p =>
    obtain ⟨t, us, rfl, ht, ts⟩ := td.tup
    cases ts with
    | cons t1 ts =>
    cases ts with
    | cons t2 ts =>
    cases ts
    cases t1
    refine ⟨_, rfl, _, _, _, _, rfl, rfl, .inl (.inl ht), rfl, _, rfl, rfl, _, rfl, iteF ⟨_, rfl, rfl, _, rfl, iteF ⟨_, rfl, rfl, _, rfl, iteF ⟨_, rfl, rfl, _, rfl, iteF ⟨_, rfl, rfl, _, rfl, iteF ⟨_, rfl, rfl, _, rfl, iteF ?_⟩⟩⟩⟩⟩⟩
    refine ⟨_, rfl, a.d, a.dx, _, rfl, hi, rfl, _, rfl, _, _, _, _, rfl, rfl, .inl (.inl ht), rfl, _, _, rfl, a, se, ms, c, n, p, rfl, h.dr, h.ok, t2, ro, ?_⟩
    exact ⟨_, rfl, a.d, _, a.dx, _, rfl, hi, T.c_Draft, T.n_Draft_goal, by simp [draftFs], k _ (.put (by simp [DA.S])) (h.dr.setGo (some (rval se ms p)))⟩
  | get p x =>
    obtain ⟨t, us, rfl, ht, ts⟩ := td.tup
    cases ts with
    | cons t1 ts =>
    cases ts with
    | cons t2 ts =>
    cases ts with
    | cons t3 ts =>
    cases ts
    cases t1
    cases t3
    simp only [R0.ok, Bool.and_eq_true, decide_eq_true_eq] at ro
    refine ⟨_, rfl, _, _, _, _, rfl, rfl, .inl (.inl ht), rfl, _, rfl, rfl, _, rfl, iteF ⟨_, rfl, rfl, _, rfl, iteF ⟨_, rfl, rfl, _, rfl, iteT ?_⟩⟩⟩
    refine ⟨_, rfl, a.d, a.dx, _, rfl, hi, rfl, _, rfl, _, _, _, _, rfl, rfl, .inl (.inl ht), rfl, _, rfl, a.d, _, a.dx, _, _, rfl, hi, T.c_Draft, T.n_Draft_special_words, rfl, _, rfl, _, _, _, _, rfl, rfl, .inl (.inl ht), rfl, a.sw, .int (ms.sw x), rfl, .inl ⟨_, Sum.inr x, .inl h.dr.sw, rfl, (spK_at ro.2).symm⟩, ?_⟩
    exact ⟨_, _, _, rfl, a, se, ms, c, n, p, _, rfl, h.dr, h.ok, t2, ro.1, rfl, fun H2 f2 d2 => k H2 f2 d2⟩
  | put x p =>
    obtain ⟨t, us, rfl, ht, ts⟩ := td.tup
    cases ts with
    | cons t1 ts =>
    cases ts with
    | cons t2 ts =>
    cases ts with
    | cons t3 ts =>
    cases ts
    cases t1
    cases t2
    simp only [R0.ok, Bool.and_eq_true, decide_eq_true_eq] at ro
    refine ⟨_, rfl, _, _, _, _, rfl, rfl, .inl (.inl ht), rfl, _, rfl, rfl, _, rfl, iteF ⟨_, rfl, rfl, _, rfl, iteF ⟨_, rfl, rfl, _, rfl, iteF ⟨_, rfl, rfl, _, rfl, iteT ?_⟩⟩⟩⟩
    refine ⟨_, rfl, a.d, a.dx, _, rfl, hi, rfl, _, rfl, _, _, _, _, rfl, rfl, .inl (.inl ht), rfl, _, _, rfl, a, se, ms, c, n, p, rfl, h.dr, h.ok, t3, ro.2, ?_⟩
    refine ⟨_, rfl, a.d, _, a.dx, _, _, rfl, hi, T.c_Draft, T.n_Draft_special_words, rfl, _, rfl, _, _, _, _, rfl, rfl, .inl (.inl ht), rfl, a.sw, _, rfl, DPut.k (k := Sum.inr x) h.dr.sw (by show 9 < sizeLine; omega), ?_⟩
    rw [spK_put ro.1]
    exact k _ (.put (by simp [DA.S])) (h.dr.setSw _)
  | inn p =>
    obtain ⟨t, us, rfl, ht, ts⟩ := td.tup
    cases ts with
    | cons t1 ts =>
    cases ts with
    | cons t2 ts =>
    cases ts with
    | cons t3 ts =>
    cases ts
    cases t1
    cases t3
    refine ⟨_, rfl, _, _, _, _, rfl, rfl, .inl (.inl ht), rfl, _, rfl, rfl, _, rfl, iteF ⟨_, rfl, rfl, _, rfl, iteF ⟨_, rfl, rfl, _, rfl, iteF ⟨_, rfl, rfl, _, rfl, iteF ⟨_, rfl, rfl, _, rfl, iteT ?_⟩⟩⟩⟩⟩
    refine ⟨_, rfl, a.d, a.dx, _, rfl, hi, rfl, _, rfl, _, _, _, _, rfl, rfl, .inl (.inl ht), rfl, _, rfl, a.d, a.dx, _, rfl, hi, rfl, _, rfl, _, _, _, _, rfl, rfl, .inl (.inl ht), rfl, _, _, rfl, a, se, ms, c, rfl, h.dr, vw, rfl, fun H2 f2 d2 => ?_⟩
    exact ⟨_, _, _, rfl, a, se, _, c, n, p, _, rfl, d2, ⟨h.ok.t4, h.ok.re, h.ok.rl, h.ok.ce, h.ok.cl, h.ok.tl⟩, t2.mono (f2.tps h.dr), ro, rfl, fun H3 f3 d3 => k H3 (f2.trans f3) d3⟩
  | out p =>
    obtain ⟨t, us, rfl, ht, ts⟩ := td.tup
    cases ts with
    | cons t1 ts =>
    cases ts with
    | cons t2 ts =>
    cases ts with
    | cons t3 ts =>
    cases ts
    cases t1
    cases t2
    refine ⟨_, rfl, _, _, _, _, rfl, rfl, .inl (.inl ht), rfl, _, rfl, rfl, _, rfl, iteF ⟨_, rfl, rfl, _, rfl, iteF ⟨_, rfl, rfl, _, rfl, iteF ⟨_, rfl, rfl, _, rfl, iteF ⟨_, rfl, rfl, _, rfl, iteF ⟨_, rfl, rfl, _, rfl, iteT ?_⟩⟩⟩⟩⟩⟩
    refine ⟨_, rfl, a.d, _, a.dx, _, _, rfl, hi, T.c_Draft, T.n_Draft_out_rows, rfl, _, rfl, _, _, _, _, rfl, rfl, .inl (.inl ht), rfl, a.ou, .ref a.lo, rfl, .inl ⟨_, Sum.inr "tty", .inl h.dr.ou, rfl, rfl⟩, .inl ⟨rfl, _, .inl (.inl h.dr.lo)⟩, ?_⟩
    refine ⟨_, rfl, a.d, a.dx, _, rfl, hi, rfl, _, rfl, _, _, _, _, rfl, rfl, .inl (.inl ht), rfl, _, _, rfl, a, se, ms, c, n, p, rfl, h.dr, h.ok, t3, ro, ?_⟩
    refine ⟨_, _, _, rfl, rfl, h.dr.lo, by have := h.ok.tl; simp; omega, ?_⟩
    have e : ms.tty.map V.int ++ [.int (rval se ms p)] = (ms.tty ++ [rval se ms p]).map V.int := by simp
    rw [e]
    exact k _ (.put (by simp [DA.S])) (h.dr.setLo _)
  | prim p nm l =>
    obtain ⟨t, us, rfl, ht, ts⟩ := td.tup
    cases ts with
    | cons t1 ts =>
    cases ts with
    | cons t2 ts =>
    cases ts with
    | cons t3 ts =>
    cases ts with
    | cons t4 ts =>
    cases ts
    cases t1
    cases t3
    obtain ⟨t5, ws, rfl, ht5, tw⟩ := t4.tup
    simp only [R0.ok, Bool.and_eq_true, decide_eq_true_eq, List.all_eq_true] at ro
    obtain ⟨⟨r1, r2⟩, r3⟩ := ro
    have hnm : nm ∈ (["sum", "less", "unit"] : List Str) := by
      have := PySem.mem_of_lookup r2
      simp only [kPRIMS, List.mem_cons, Prod.mk.injEq, List.not_mem_nil, or_false] at this
      rcases this with ⟨rfl, _⟩ | ⟨rfl, _⟩ | ⟨rfl, _⟩ <;> simp
    have hll : l.length ≤ 2 := by
      have := PySem.mem_of_lookup r2
      simp only [kPRIMS, List.mem_cons, Prod.mk.injEq, List.not_mem_nil, or_false] at this
      rcases this with ⟨_, h⟩ | ⟨_, h⟩ | ⟨_, h⟩ <;> omega
    have lw := tw.length
    rw [List.length_map] at lw
    refine ⟨_, rfl, _, _, _, _, rfl, rfl, .inl (.inl ht), rfl, _, rfl, rfl, _, rfl, iteF ⟨_, rfl, rfl, _, rfl, iteT ?_⟩⟩
    refine ⟨_, rfl, _, _, _, _, rfl, rfl, .inl (.inl ht), rfl, t5, rfl, ⟨_, .inl (.inl ht5)⟩, fun D hD => ?_⟩
    refine lc_it (walk_tup (xs := ws)) (fun i H' => Same H H' ∧ H' D = some (.lst (((l.map (rval se ms)).take i).map V.int))) ⟨Same.new hD, upd_same⟩ (fun i H' _ hh => .inl (.inl (hh.1 _ _ ht5))) (fun i z H' H2' hj ⟨m, e⟩ y' => ?_) fun H' ⟨m, e⟩ => ?_
    · obtain ⟨rfl, hz2⟩ := y'
      obtain ⟨rr, hrr, tr⟩ := refs_data (tw.mono (.of m)) hz2
      have d2 := h.dr.same m
      refine ⟨rfl, yesI ?_⟩
      refine ⟨_, rfl, a.d, a.dx, _, rfl, d2.i, rfl, _, rfl, _, _, rfl, a, se, ms, c, n, rr, rfl, d2, h.ok, tr, r3 _ (List.mem_of_getElem? hrr), ?_⟩
      refine ⟨_, e, by simp; omega, Same.mut m hD, ?_⟩
      rw [upd_same, List.take_add_one, List.getElem?_map, hrr, List.map_append]
      rfl
    · have e : H' D = some (.lst ((l.map (rval se ms)).map V.int)) := by rw [e, ← lw, ← List.length_map (rval se ms), List.take_length]
      refine ⟨D, _, rfl, .inl ⟨.inl (.inl e), fun t6 ht6 => ?_⟩⟩
      have m6 := m.trans (Same.new (o := .tup ((l.map (rval se ms)).map V.int)) ht6)
      have e6 : (upd H' t6 (.tup ((l.map (rval se ms)).map V.int))) t6 = some (.tup ((l.map (rval se ms)).map V.int)) := upd_same
      generalize upd H' t6 (.tup ((l.map (rval se ms)).map V.int)) = H6 at m6 e6 ⊢
      have d6 := h.dr.same m6
      have vw6 := vw.same m6
      have ⟨vdx, me, _, _, _, _, _, hv, hme, _⟩ := vw6
      have ⟨mdx, _, _, _, _, hm0, _⟩ := hme
      refine ⟨_, rfl, a.d, a.dx, _, rfl, d6.i, rfl, _, rfl, _, _, _, _, rfl, rfl, .inl (.inl (m6 _ _ ht)), rfl, ?_⟩
      refine ⟨_, rfl, a.d, _, a.dx, _, _, rfl, d6.i, T.c_Draft, T.n_Draft_view, rfl, a.v, _, vdx, _, _, rfl, hv, T.c_BoxView, T.n_BoxView_ground, rfl, me, mdx, _, rfl, hm0, rfl, _, rfl, _, _, _, _, rfl, rfl, .inl (.inl (m6 _ _ ht)), rfl, _, rfl, ?_⟩
      refine ⟨_, _, _, rfl, me, c.g, nm, l.map (rval se ms), rfl, hme, rfl, hnm, .t e6 (.of_ints _), ?_⟩
      exact ⟨_, _, _, rfl, a, se, ms, c, n, p, _, rfl, d6, h.ok, t2.mono (.of m6), r1, rfl, fun H7 f7 d7 => k H7 ((Frz.of m6).trans f7) d7⟩
end
end W73
set_option Elab.async false
set_option linter.all false
set_option maxRecDepth 100000
set_option maxHeartbeats 4000000
namespace W73
open PySem PySem.Spec PyProof.Rows L2
open C8 (Cal Met Mak pe_c pe_mk pe_mt pe_mt0 pe_gc pss_cut tCut)
section
variable {P : Program} {w : World} {K : PySem.W.Frag} {mg : Str → Option Value} {base : Heap}
def run0 (c : Cv) (se : List Int) : Ms → List R0 → Ms × Option D
  | ms, [] => (ms, none)
  | ms, r :: l => match step0 c se ms r with
    | (ms', none) => run0 c se ms' l
    | (ms', some e) => (ms', some e)
def step1 (c : Cv) (se : List Int) (ms : Ms) : Row → Ms × Option D
  | .r z => step0 c se ms z
  | .iff a x y => run0 c se ms (if rval se ms a = 0 then y else x)
def run1 (c : Cv) (se : List Int) : Ms → List Row → Ms × Option D
  | ms, [] => (ms, none)
  | ms, r :: l => match step1 c se ms r with
    | (ms', none) => run1 c se ms' l
    | (ms', some e) => (ms', some e)
theorem run1_r {c : Cv} {se : List Int} : ∀ {l : List R0} {ms : Ms}, run1 c se ms (l.map Row.r) = run0 c se ms l
  | [], _ => rfl
  | r :: l, ms => by
    show (match step0 c se ms r with
      | (ms', none) => run1 c se ms' (l.map Row.r)
      | (ms', some e) => (ms', some e)) = match step0 c se ms r with
      | (ms', none) => run0 c se ms' l
      | (ms', some e) => (ms', some e)
    split
    · exact run1_r
    · rfl
theorem run0_ok {c : Cv} {se : List Int} (hc : c.ok) : ∀ {l : List R0} {ms : Ms} {n : Nat}, ms.ok c se (n + l.length) → (run0 c se ms l).1.ok c se n
  | [], _, _, h => h
  | r :: l, ms, n, h => by
    have h1 := step0_ok (n := n + l.length) hc (by simpa [Nat.add_assoc] using h) r
    unfold run0
    split
    · rename_i e
      rw [e] at h1
      exact run0_ok hc h1
    · rename_i e
      rw [e] at h1
      exact h1.le (by omega)
def bud (m : Nat) : Nat := if m = 0 then 1 else 10
theorem step1_ok {c : Cv} {se : List Int} {ms : Ms} {n m : Nat} (hc : c.ok) (h : ms.ok c se (n + bud m)) {r : Row} (hr : r.ok se.length m = true) : (step1 c se ms r).1.ok c se n := by
  have hb : 1 ≤ bud m := by unfold bud; split <;> omega
  cases r with
  | r z => exact step0_ok hc (h.le (by omega)) z
  | iff a x y =>
    simp only [Row.ok, Bool.and_eq_true, decide_eq_true_eq] at hr
    obtain ⟨⟨⟨⟨⟨h0, _⟩, h1⟩, _⟩, h2⟩, _⟩ := hr
    have hb : bud m = 10 := by unfold bud; rw [if_neg (by omega)]
    refine run0_ok hc (h.le ?_)
    split <;> omega
theorem Frz.dn {H H' : Hp} {a : DA} {se : List Int} {ms : Ms} {c : Cv} {n : Nat} (h : Dn K H a se ms c n) (f : Frz a H H') : Tps H H' := f.tps h.dr
def sp_carry (K : PySem.W.Frag) (m : Nat) : Sp := sp2 fun x y H Q => ∃ a se ms c n rows, x = .ref a.d ∧ Dn K H a se ms c n ∧ bud m * rows.length ≤ n ∧ TD' H (.t (rows.map Row.d)) y ∧ (∀ r ∈ rows, Row.ok se.length m r = true) ∧
  ∀ v H', Frz a H H' → DrAt K H' a se (run1 c se ms rows).1 → (match (run1 c se ms rows).2 with | none => v = .non | some d => TD' H' d v) → Q v H'
theorem Row.head {r : Row} {H : Hp} {v : V} (h : TD' H r.d v) : ∃ t nm us, v = .ref t ∧ H t = some (.tup (.str nm :: us)) ∧ r.ds.head? = some (.s nm) := by
  obtain ⟨t, us, rfl, ht, ts⟩ := h.tup
  cases r with
  | r z => cases z <;> (cases ts with | cons t1 ts => cases t1; exact ⟨t, _, _, rfl, ht, rfl⟩)
  | iff a x y => cases ts with | cons t1 ts => cases t1; exact ⟨t, _, _, rfl, ht, rfl⟩
end
end W73
set_option Elab.async false
set_option linter.all false
set_option maxRecDepth 100000
set_option maxHeartbeats 4000000
namespace W73
open PySem PySem.Spec PyProof.Rows L2
open C8 (Cal Met Mak pe_c pe_mk pe_mt pe_mt0 pe_gc pss_cut tCut)
section
variable {P : Program} {w : World} {K : PySem.W.Frag} {mg : Str → Option Value} {base : Heap}
theorem R0.head {r : R0} {H : Hp} {v : V} (h : TD' H r.d v) : ∃ t nm us, v = .ref t ∧ H t = some (.tup (.str nm :: us)) ∧ nm ≠ "if" ∧ ((∃ x, r = .trap x) ∧ nm = "trap" ∨ ((∃ p q, r = .load p q) ∨ ∃ p q, r = .store p q) ∧ nm ≠ "trap" ∧ (nm ∈ (["load", "store"] : List Str)) ∨ r.plain = true ∧ nm ≠ "trap" ∧ nm ∉ (["load", "store"] : List Str)) := by
  obtain ⟨t, us, rfl, ht, ts⟩ := h.tup
  cases r with
  | trap x => cases ts with | cons t1 ts => cases t1; exact ⟨t, _, _, rfl, ht, by decide, .inl ⟨⟨x, rfl⟩, rfl⟩⟩
  | load p q => cases ts with | cons t1 ts => cases t1; exact ⟨t, _, _, rfl, ht, by decide, .inr (.inl ⟨.inl ⟨p, q, rfl⟩, by decide, by decide⟩)⟩
  | store p q => cases ts with | cons t1 ts => cases t1; exact ⟨t, _, _, rfl, ht, by decide, .inr (.inl ⟨.inr ⟨p, q, rfl⟩, by decide, by decide⟩)⟩
  | _ => cases ts with | cons t1 ts => cases t1; exact ⟨t, _, _, rfl, ht, by decide, .inr (.inr ⟨rfl, by decide, by decide⟩)⟩
theorem ok_carry (T : Tz P w K mg) {m k : Nat} {spR : Sp} (hk : 4 ≤ k) (c_carry_out : Cal P w K mg base k "carry_out" spR []) (hR : m ≠ 0 → ∀ vs H Q E, sp_carry K 0 vs H Q E → spR vs H Q E) : Cal P w K mg base (k + 1) "carry_out" (sp_carry K m) [] := by
  have c_Draft_value : Met P w K mg base 1 (C_Draft K) "value" (sp_value K) [] := ok_value T
  have c_Draft_touch : Met P w K mg base 3 (C_Draft K) "touch" (sp_touch K) [] := ok_touch T
  have c_Draft_settle : Met P w K mg base 4 (C_Draft K) "settle" (sp_settle K) [] := ok_settle T
  refine mk_carry_out T.toTx len2 fun f cdv A outer s H vs Q E hr h => ?_
  obtain ⟨_, _, rfl, a, se, ms, c, n, rows, rfl, h, hb, td, ro, kk⟩ := h
  obtain ⟨p, us, rfl, hp, ts⟩ := td.tup
  have hu := hu_of hr
  have hz := sizeL
  have lu := ts.length
  rw [List.length_map] at lu
  refine ⟨_, (pss_cons (ps_for PassesOwn.never rfl (pi_tup (pv 1)) (pg_name (i := 2) sc_carry_out.nd rfl (Or.inl rfl)) (pss_cons (ps_if (pt_cmpR op_eq (pe_ix ix_tup (pv 2) pe_int (fun _ _ => rfl)) pe_str (nomark _)) (pss_one (ps_ret (pv 2))) pss_nil)
    (pss_cons (ps_if (pt_cmpR op_eq (pe_ix ix_tup (pv 2) pe_int (fun _ _ => rfl)) pe_str (nomark _)) (pss_one (ps_set (i := 3) sc_carry_out.nd rfl (Or.inl rfl) (pe_c c_carry_out hr (by first | decide | omega) rfl (pa_cons (pv 0) (pa_cons (pe_ifExp (pt_cmpR op_ne (pe_mt c_Draft_value hr (by first | decide | omega) (pv 0) (pa_cons (pe_ix ix_tup (pv 2) pe_int (fun _ _ => rfl)) pa_nil)) pe_int (nomark _)) (pe_ix ix_tup (pv 2) pe_int (fun _ _ => rfl)) (pe_ix ix_tup (pv 2) pe_int (fun _ _ => rfl))) pa_nil))))) (pss_one (ps_if (pt_cmpR op_in_seq (pe_ix ix_tup (pv 2) pe_int (fun _ _ => rfl)) (pe_tup (pa_cons pe_str (pa_cons pe_str pa_nil))) rfl) (pss_one (ps_set (i := 3) sc_carry_out.nd rfl (Or.inl rfl) (pe_mt c_Draft_touch hr (by first | decide | omega) (pv 0) (pa_cons (pv 2) pa_nil)))) (pss_one (ps_set (i := 3) sc_carry_out.nd rfl (Or.inl rfl) (pe_mt c_Draft_settle hr (by first | decide | omega) (pv 0) (pa_cons (pv 2) pa_nil)))))))
    (pss_one (ps_if (pt_cmpR op_notN (pv 3) pe_non (nomark _)) (pss_one (ps_ret (pv 3))) pss_nil)))))
    (pss_one (ps_ret pe_non))), ?_⟩
  refine ⟨_, rfl, p, rfl, ⟨_, .inl (.inl hp)⟩, for_tup (xs := us) (fun i σ H2 => ∃ u v ms', σ = [some (.ref a.d), some (.ref p), u, v] ∧ Frz a H H2 ∧ Dn K H2 a se ms' c (bud m * (rows.length - i)) ∧ run1 c se ms rows = run1 c se ms' (rows.drop i)) ⟨_, _, ms, rfl, .refl _ _, ⟨h.dr, h.vw, h.ok.le (by simpa using hb), h.co⟩, rfl⟩ ?_ ?_ ?_⟩
  · rintro i σ H2 _ ⟨_, _, _, _, f2, d2, _⟩
    exact .inl (.inl (f2.tps h.dr _ _ hp))
  · rintro i v σ H2 hv ⟨u, v', ms', rfl, f2, d2, e2⟩
    obtain ⟨dd, hdd, td⟩ := TDs.get' (ts.mono (f2.tps h.dr)) hv
    have hlt : i < rows.length := by rw [lu]; exact (List.getElem?_eq_some_iff.mp hv).1
    rw [List.getElem?_map, List.getElem?_eq_getElem hlt] at hdd
    cases hdd
    have hro := ro _ (List.getElem_mem hlt)
    rw [List.drop_eq_getElem_cons hlt] at e2
    have hbud : bud m * (rows.length - i) = bud m * (rows.length - (i + 1)) + bud m := by
      rw [show rows.length - i = (rows.length - (i + 1)) + 1 by omega, Nat.mul_add, Nat.mul_one]
    generalize rows[i] = r at td hro e2
    have ok1 := step1_ok d2.co (by rw [← hbud]; exact d2.ok) hro
    have cont : ∀ H3, Frz a H2 H3 → DrAt K H3 a se (step1 c se ms' r).1 → (step1 c se ms' r).2 = none → ∀ u v, ∃ u' v'' ms'', [some (V.ref a.d), some (.ref p), u, v] = [some (.ref a.d), some (.ref p), u', v''] ∧ Frz a H H3 ∧ Dn K H3 a se ms'' c (bud m * (rows.length - (i + 1))) ∧ run1 c se ms rows = run1 c se ms'' (rows.drop (i + 1)) := fun H3 f3 d3 e3 u v => by
      refine ⟨u, v, (step1 c se ms' r).1, rfl, f2.trans f3, d2.next f3 d3 ok1, ?_⟩
      rw [e2]
      show (match step1 c se ms' r with
        | (ms', none) => run1 c se ms' (rows.drop (i + 1))
        | (ms', some e) => (ms', some e)) = _
      split
      · rename_i e
        rw [e]
      · rename_i e
        rw [e] at e3
        cases e3
    have fin : ∀ H3 v d, Frz a H2 H3 → DrAt K H3 a se (step1 c se ms' r).1 → (step1 c se ms' r).2 = some d → TD' H3 d v → Q v H3 := fun H3 v d f3 d3 e3 t3 => by
      have e4 : run1 c se ms rows = ((step1 c se ms' r).1, some d) := by
        rw [e2]
        show (match step1 c se ms' r with
          | (ms', none) => run1 c se ms' (rows.drop (i + 1))
          | (ms', some e) => (ms', some e)) = _
        split
        · rename_i e
          rw [e] at e3
          cases e3
        · rename_i e
          rw [e] at e3 ⊢
          cases e3
          rfl
      refine kk v H3 (f2.trans f3) ?_ ?_ <;> rw [e4]
      · exact d3
      · exact t3
    have fin2 : ∀ (u : Option V) H3 v, Frz a H2 H3 → DrAt K H3 a se (step1 c se ms' r).1 → (match (step1 c se ms' r).2 with | none => v = .non | some d => TD' H3 d v) → if (!decide (v = V.non)) = true then (∃ v', ([some (V.ref a.d), some (V.ref p), u, some v] : L2.St)[3]? = some (some v') ∧ Q v' H3)
        else ∃ u' v'' ms'', [some (V.ref a.d), some (.ref p), u, some v] = [some (.ref a.d), some (.ref p), u', v''] ∧ Frz a H H3 ∧ Dn K H3 a se ms'' c (bud m * (rows.length - (i + 1))) ∧ run1 c se ms rows = run1 c se ms'' (rows.drop (i + 1)) := fun u H3 v f3 d3 hv => by
      cases e : (step1 c se ms' r).2 with
      | none =>
        rw [e] at hv
        have hv : v = .non := hv
        subst hv
        exact iteF (cont H3 f3 d3 e u _)
      | some d =>
        rw [e] at hv
        have hv : TD' H3 d v := hv
        exact iP (by cases hv <;> rfl) ⟨v, rfl, fin H3 v d f3 d3 e hv⟩
    cases r with
    | r z =>
      obtain ⟨t, nm, ws, rfl, ht, nif, hcase⟩ := R0.head (r := z) td
      rcases hcase with ⟨⟨x, rfl⟩, rfl⟩ | ⟨hls, ntr, hin⟩ | ⟨hpl, ntr, hnin⟩
      · refine ⟨_, rfl, _, _, _, .str "trap", rfl, rfl, .inl (.inl ht), atI_nat (j := 0) rfl, rfl, _, rfl, iteT ?_⟩
        exact ⟨_, rfl, fin H2 _ _ (.refl _ _) d2.dr rfl td⟩
      · refine ⟨_, rfl, _, _, _, .str nm, rfl, rfl, .inl (.inl ht), atI_nat (j := 0) rfl, rfl, _, rfl, iN (by simp [ntr]) ?_⟩
        refine ⟨_, rfl, _, _, _, .str nm, rfl, rfl, .inl (.inl ht), atI_nat (j := 0) rfl, rfl, _, rfl, iN (by simp [nif]) ?_⟩
        refine ⟨_, rfl, _, _, _, .str nm, rfl, rfl, .inl (.inl ht), atI_nat (j := 0) rfl, by show 2 ≤ sizeLine; decide, fun q hq => ⟨q, _, rfl, .inr (.inl (.inl upd_same)), rfl, rfl, ?_⟩⟩
        have m3 := Same.new (o := .tup [.str "load", .str "store"]) hq
        generalize upd H2 q (.tup [.str "load", .str "store"]) = H3 at m3 ⊢
        show ∃ k, V.bl (inV (.str nm) ((["load", "store"] : List Str).map V.str)) = .bl k ∧ _
        rw [inV_strs, decide_eq_true hin]
        refine ⟨_, rfl, iteT ?_⟩
        have d3 := d2.same m3
        refine ⟨_, rfl, a.d, a.dx, _, rfl, d3.dr.i, rfl, _, rfl, _, _, rfl, a, se, ms', c, _, z, rfl, d3, td.mono (.of m3), hls, hro, by have := d3.ok.cl; omega, fun v H4 f4 d4 hv => ?_⟩
        exact ⟨_, rfl, rfl, _, rfl, fin2 _ H4 v ((Frz.of m3).trans f4) d4 hv⟩
      · refine ⟨_, rfl, _, _, _, .str nm, rfl, rfl, .inl (.inl ht), atI_nat (j := 0) rfl, rfl, _, rfl, iN (by simp [ntr]) ?_⟩
        refine ⟨_, rfl, _, _, _, .str nm, rfl, rfl, .inl (.inl ht), atI_nat (j := 0) rfl, rfl, _, rfl, iN (by simp [nif]) ?_⟩
        refine ⟨_, rfl, _, _, _, .str nm, rfl, rfl, .inl (.inl ht), atI_nat (j := 0) rfl, by show 2 ≤ sizeLine; decide, fun q hq => ⟨q, _, rfl, .inr (.inl (.inl upd_same)), rfl, rfl, ?_⟩⟩
        have m3 := Same.new (o := .tup [.str "load", .str "store"]) hq
        generalize upd H2 q (.tup [.str "load", .str "store"]) = H3 at m3 ⊢
        show ∃ k, V.bl (inV (.str nm) ((["load", "store"] : List Str).map V.str)) = .bl k ∧ _
        rw [inV_strs, decide_eq_false hnin]
        refine ⟨_, rfl, iteF ?_⟩
        have d3 := d2.same m3
        refine ⟨_, rfl, a.d, a.dx, _, rfl, d3.dr.i, rfl, _, rfl, _, _, rfl, a, se, ms', c, _, z, rfl, d3, td.mono (.of m3), hpl, hro, fun H4 f4 d4 => ?_⟩
        refine ⟨_, rfl, rfl, _, rfl, fin2 _ H4 .non ((Frz.of m3).trans f4) d4 ?_⟩
        show match (step0 c se ms' z).2 with | none => V.non = .non | some d => TD' H4 d .non
        have : (step0 c se ms' z).2 = none := by cases z <;> first | rfl | cases hpl
        rw [this]
    | iff b x y =>
      obtain ⟨t, ws, rfl, ht, tw⟩ := td.tup
      cases tw with
      | cons t1 tw =>
      cases tw with
      | cons t2 tw =>
      cases tw with
      | cons t3 tw =>
      cases tw with
      | cons t4 tw =>
      cases tw
      cases t1
      simp only [Row.ok, Bool.and_eq_true, decide_eq_true_eq, List.all_eq_true] at hro
      obtain ⟨⟨⟨⟨⟨h0, hb1⟩, h1⟩, h1'⟩, h2⟩, h2'⟩ := hro
      have hb10 : bud m = 10 := by unfold bud; rw [if_neg (by omega)]
      refine ⟨_, rfl, _, _, _, _, rfl, rfl, .inl (.inl ht), rfl, rfl, _, rfl, iteF ?_⟩
      refine ⟨_, rfl, _, _, _, _, rfl, rfl, .inl (.inl ht), rfl, rfl, _, rfl, iteT ?_⟩
      refine ⟨_, rfl, _, rfl, a.d, a.dx, _, rfl, d2.dr.i, rfl, _, rfl, _, _, _, _, rfl, rfl, .inl (.inl ht), rfl, _, _, rfl, a, se, ms', c, _, b, rfl, d2.dr, d2.ok, t2, hb1, rfl, _, rfl, ?_⟩
      have go : ∀ (l : List R0), l.length ≤ 8 → (∀ r ∈ l, r.ok se.length = true) → bud 0 * (l.map Row.r).length ≤ bud m * (rows.length - i) ∧ ∀ r ∈ l.map Row.r, Row.ok se.length 0 r = true := fun l l8 lo => by
        refine ⟨?_, fun r hr => ?_⟩
        · rw [List.length_map, hbud, hb10]
          show 1 * l.length ≤ _
          omega
        · obtain ⟨r0, h0, rfl⟩ := List.mem_map.mp hr
          exact lo r0 h0
      have el : ∀ l : List R0, (l.map Row.r).map Row.d = l.map R0.d := fun l => by rw [List.map_map]; rfl
      refine ite2 (fun hne => ?_) fun heq => ?_
      · have hne : ¬ rval se ms' b = 0 := by simpa using hne
        obtain ⟨g1, g2⟩ := go x h1 h1'
        refine ⟨_, rfl, _, _, _, _, rfl, rfl, .inl (.inl ht), rfl, hR (by omega) _ _ _ _ ⟨_, _, rfl, a, se, ms', c, _, x.map Row.r, rfl, d2, g1, by rw [el]; exact t3, g2, fun v H4 f4 d4 hv => ?_⟩⟩
        have e1 : step1 c se ms' (.iff b x y) = run1 c se ms' (x.map Row.r) := by
          rw [run1_r]
          show run0 c se ms' (if rval se ms' b = 0 then y else x) = _
          rw [if_neg hne]
        rw [← e1] at d4 hv
        exact ⟨_, rfl, rfl, _, rfl, fin2 _ H4 v f4 d4 hv⟩
      · have heq : rval se ms' b = 0 := by simpa using heq
        obtain ⟨g1, g2⟩ := go y h2 h2'
        refine ⟨_, rfl, _, _, _, _, rfl, rfl, .inl (.inl ht), rfl, hR (by omega) _ _ _ _ ⟨_, _, rfl, a, se, ms', c, _, y.map Row.r, rfl, d2, g1, by rw [el]; exact t4, g2, fun v H4 f4 d4 hv => ?_⟩⟩
        have e1 : step1 c se ms' (.iff b x y) = run1 c se ms' (y.map Row.r) := by
          rw [run1_r]
          show run0 c se ms' (if rval se ms' b = 0 then y else x) = _
          rw [if_pos heq]
        rw [← e1] at d4 hv
        exact ⟨_, rfl, rfl, _, rfl, fin2 _ H4 v f4 d4 hv⟩
  · rintro σ H2 ⟨u, v, ms', rfl, f2, d2, e2⟩
    rw [← lu, List.drop_length] at e2
    have e3 : run1 c se ms rows = (ms', none) := e2
    refine kk .non H2 f2 ?_ ?_ <;> rw [e3]
    exact d2.dr
end
end W73
set_option Elab.async false
set_option linter.all false
set_option maxRecDepth 100000
set_option maxHeartbeats 4000000
namespace W73
open PySem PySem.Spec PyProof.Rows L2
open C8 (Cal Met Mak pe_c pe_mk pe_mt pe_mt0 pe_gc pss_cut tCut)
section
variable {P : Program} {w : World} {K : PySem.W.Frag} {mg : Str → Option Value} {base : Heap}
/-! ### copies of lists, by the ports too -/
theorem dq_ports {C : Str → Addr → Hp → Prop} (hm : ∀ s l H H', Same H H' → C s l H → C s l H') (hu : ∀ s l H D o kv', H D = some o → (∀ xs, o ≠ .lst xs) → (∀ xs, o ≠ .tup xs) → C s l H → C s l (upd H D (.dK kv')))
    (hn : ∀ s l H, C s l H → H l ≠ none) {d : Addr} {od : Obj} {x1 x2 : V} {g : TG} {tk tv : TE} {vs : List Nat} {σ : L2.St} {H1 : Hp} {D : Addr} {Qd : Hp → Prop} (hD : H1 D = none) (hd : H1 d = some (.frz od (.dK [(Sum.inr "tty", x1), (Sum.inr "keys", x2)])))
    (hs : ∀ (s : Str) x H2 (R : V → V → Hp → Prop), (s = "tty" ∧ x = x1 ∨ s = "keys" ∧ x = x2) → valV ([(Sum.inr "tty", x1), (Sum.inr "keys", x2)] : List (Key × V)) (Sum.inr s) = some x → Same H1 H2 → (∀ l H4, H2 l = none → Same H2 H4 → C s l H4 → R (.str s) (.ref l) H4) → g (.str s) (wipe σ vs) H2 fun σ2 H3 => wipe σ2 vs = wipe σ vs ∧ tk σ2 H3 fun y H4 => tv σ2 H4 fun z H5 => R y z H5)
    (k : ∀ H l1 l2, Same H1 H → H D = some (.dK [(Sum.inr "tty", .ref l1), (Sum.inr "keys", .ref l2)]) → C "tty" l1 H → C "keys" l2 H → l1 ≠ l2 → H1 l1 = none → H1 l2 = none → Qd H) :
    ∃ W : Nat → Nat → Hp → Prop, (∃ m, W 0 m (upd H1 D (eD false))) ∧ ∀ i m H, W i m H →
      ((Itk d od [(Sum.inr "tty", x1), (Sum.inr "keys", x2)]).stop i H ∧ Qd H) ∨ ((Itk d od [(Sum.inr "tty", x1), (Sum.inr "keys", x2)]).go i H ∧ ∃ Nx : Hp → Prop, (∀ H', Nx H' → ∃ m', m' < m ∧ W (i + 1) m' H') ∧ ∀ x H', (Itk d od [(Sum.inr "tty", x1), (Sum.inr "keys", x2)]).yld i H x H' → g x (wipe σ vs) H' fun σ2 H2 => wipe σ2 vs = wipe σ vs ∧ tYes σ2 H2 fun b H3 =>
        if b = true then tk σ2 H3 fun y H4 => tv σ2 H4 fun z H5 => ∃ H6, DPut H5 D y z H6 ∧ Nx H6 else Nx H3) := by
  refine dq_it walk_keys (fun i H => Same H1 H ∧ match i with
    | 0 => H D = some (.dK [])
    | 1 => ∃ l1, H D = some (.dK [(Sum.inr "tty", .ref l1)]) ∧ C "tty" l1 H ∧ H1 l1 = none
    | _ => ∃ l1 l2, H D = some (.dK [(Sum.inr "tty", .ref l1), (Sum.inr "keys", .ref l2)]) ∧ C "tty" l1 H ∧ C "keys" l2 H ∧ l1 ≠ l2 ∧ H1 l1 = none ∧ H1 l2 = none) ⟨Same.new hD, upd_same⟩ (fun i H _ h => h.1 _ _ hd) (fun i x H H' hi ⟨m, e⟩ y => ?_) fun H ⟨m, l1, l2, e, c1, c2, n, a1, a2⟩ => k H l1 l2 m e c1 c2 n a1 a2
  obtain ⟨rfl, ky, v, hkv, rfl⟩ := y
  have hz := sizeL
  match i, hkv, e with
  | 0, hkv, e =>
    cases hkv
    refine hs "tty" x1 H' (fun y z H5 => ∃ H6, DPut H5 D y z H6 ∧ _) (.inl ⟨rfl, rfl⟩) rfl m fun l H4 hl m4 c => ⟨_, DPut.k (k := Sum.inr "tty") (m4 _ _ e) (by show 0 < sizeLine; omega), Same.mut (m.trans m4) hD, l, upd_same, hu _ _ _ _ _ _ (m4 _ _ e) (by simp) (by simp) c, ?_⟩
    cases q : H1 l with
    | none => rfl
    | some o => have := m _ _ q; rw [hl] at this; cases this
  | 1, hkv, e =>
    cases hkv
    obtain ⟨l1, e, c1, a1⟩ := e
    refine hs "keys" x2 H' (fun y z H5 => ∃ H6, DPut H5 D y z H6 ∧ _) (.inr ⟨rfl, rfl⟩) rfl m fun l H4 hl m4 c => ⟨_, DPut.k (k := Sum.inr "keys") (m4 _ _ e) (by show 1 < sizeLine; omega), Same.mut (m.trans m4) hD, l1, l, ?_, hu _ _ _ _ _ _ (m4 _ _ e) (by simp) (by simp) (hm _ _ _ _ m4 c1), hu _ _ _ _ _ _ (m4 _ _ e) (by simp) (by simp) c, fun z => ?_, a1, ?_⟩
    · rw [upd_same]
      rfl
    · subst z
      exact hn _ _ _ c1 hl
    · cases q : H1 l with
      | none => rfl
      | some o => have := m _ _ q; rw [hl] at this; cases this
  | i + 2, hkv, e => simp at hkv
/-- the lists at as, copied -/
theorem lc_copy {J : It} {as : List Addr} {rows : List (List Int)} {G : Hp → Prop} (w : Walk J (as.map V.ref).length G (YAt (as.map V.ref))) {g : TG} {te : TE} {vs : List Nat} {σ : L2.St} {H1 : Hp} {D : Addr} {Qd : Hp → Prop} (hz : as.length ≤ sizeLine) (hD : H1 D = none) (hG : ∀ H, Same H1 H → G H)
    (hp : Paired (fun a (row : List Int) => H1 a = some (.lst (row.map V.int))) as rows)
    (hs : ∀ a (row : List Int) H2 (R : V → Hp → Prop), H2 a = some (.lst (row.map V.int)) → (∀ l, H2 l = none → R (.ref l) (upd H2 l (.lst (row.map V.int)))) → g (.ref a) (wipe σ vs) H2 fun σ2 H3 => wipe σ2 vs = wipe σ vs ∧ te σ2 H3 R)
    (k : ∀ H ds, Same H1 H → H D = some (.lst (ds.map V.ref)) → Paired (fun a (row : List Int) => H a = some (.lst (row.map V.int))) ds rows → ds.Nodup → (∀ a ∈ ds, H1 a = none ∧ a ≠ D) → Qd H) :
    ∃ W : Nat → Nat → Hp → Prop, (∃ m, W 0 m (upd H1 D (.lst []))) ∧ ∀ i m H, W i m H →
      (J.stop i H ∧ Qd H) ∨ (J.go i H ∧ ∃ Nx : Hp → Prop, (∀ H', Nx H' → ∃ m', m' < m ∧ W (i + 1) m' H') ∧ ∀ x H', J.yld i H x H' → g x (wipe σ vs) H' fun σ2 H2 => wipe σ2 vs = wipe σ vs ∧ tYes σ2 H2 fun b H3 =>
        if b = true then te σ2 H3 fun y H4 => ∃ acc, H4 D = some (.lst acc) ∧ acc.length < sizeLine ∧ Nx (upd H4 D (.lst (acc ++ [y]))) else Nx H3) := by
  have ll := Paired.length hp
  rw [List.length_map] at w
  refine lc_it w (fun i H => Same H1 H ∧ ∃ ds : List Addr, H D = some (.lst (ds.map V.ref)) ∧ Paired (fun a (row : List Int) => H a = some (.lst (row.map V.int))) ds (rows.take i) ∧ ds.Nodup ∧ ∀ a ∈ ds, H1 a = none ∧ a ≠ D) ⟨Same.new hD, [], upd_same, .nil, .nil, by simp⟩ (fun i H _ h => hG H h.1) (fun i x H H' hi ⟨m, ds, e, p, nd, fr⟩ y => ?_) fun H ⟨m, ds, e, p, nd, fr⟩ => k H ds m e (by rw [ll, List.take_length] at p; exact p) nd fr
  obtain ⟨rfl, hy⟩ := y
  rw [List.getElem?_map] at hy
  obtain ⟨a, ha, rfl⟩ := Option.map_eq_some_iff.mp hy
  obtain ⟨row, hrow, hA⟩ := Paired.at hp ha
  have hir : i < rows.length := (List.getElem?_eq_some_iff.mp hrow).1
  have ldi : ds.length = i := by rw [Paired.length p, List.length_take]; omega
  refine hs a row H' (fun y H4 => ∃ acc, H4 D = some (.lst acc) ∧ acc.length < sizeLine ∧ _) (m _ _ hA) fun l hl => ?_
  have m4 : Same H' (upd H' l (.lst (row.map V.int))) := Same.new hl
  have lD : l ≠ D := fun z => by rw [z, e] at hl; cases hl
  have l1 : H1 l = none := by
    cases q : H1 l with
    | none => rfl
    | some o => have := m _ _ q; rw [hl] at this; cases this
  have lds : l ∉ ds := fun z => by
    obtain ⟨i, hi⟩ := List.getElem?_of_mem z
    obtain ⟨r, _, q⟩ := Paired.at p hi
    rw [hl] at q
    cases q
  refine ⟨_, m4 _ _ e, by simp; omega, Same.mut (m.trans m4) hD, ds ++ [l], ?_, ?_, ?_, ?_⟩
  · rw [upd_same]
    simp
  · rw [List.take_succ, hrow]
    have up : ∀ a, a ≠ D → (upd (upd H' l (.lst (row.map V.int))) D (.lst (ds.map V.ref ++ [V.ref l]))) a = (upd H' l (.lst (row.map V.int))) a := fun a n => upd_ne n
    have p2 : Paired (fun a (row' : List Int) => (upd (upd H' l (.lst (row.map V.int))) D (.lst (ds.map V.ref ++ [V.ref l]))) a = some (.lst (row'.map V.int))) ds (rows.take i) := by
      have : ∀ (xs : List Addr) (ys : List (List Int)), (∀ a ∈ xs, a ≠ D) → Paired (fun a (row : List Int) => H' a = some (.lst (row.map V.int))) xs ys → Paired (fun a (row' : List Int) => (upd (upd H' l (.lst (row.map V.int))) D (.lst (ds.map V.ref ++ [V.ref l]))) a = some (.lst (row'.map V.int))) xs ys := fun xs ys hn h => by
        induction h with
        | nil => exact .nil
        | cons r t ih => exact .cons (by rw [up _ (hn _ (List.mem_cons_self ..))]; exact m4 _ _ r) (ih fun a ha => hn a (List.mem_cons_of_mem _ ha))
      exact this _ _ (fun a ha => (fr a ha).2) p
    have app : ∀ {α β : Type} {R : α → β → Prop} {xs : List α} {ys : List β} {x : α} {y : β}, Paired R xs ys → R x y → Paired R (xs ++ [x]) (ys ++ [y]) := fun h r => by
      induction h with
      | nil => exact .cons r .nil
      | cons r' t ih => exact .cons r' ih
    exact app p2 (by rw [up _ lD, upd_same])
  · exact List.nodup_append.mpr ⟨nd, by simp, fun a ha b hb => by simp at hb; subst hb; exact fun z => lds (z ▸ ha)⟩
  · intro a ha
    rcases List.mem_append.mp ha with ha | ha
    · exact fr a ha
    · simp at ha
      subst ha
      exact ⟨l1, lD⟩
end
end W73
set_option Elab.async false
set_option linter.all false
set_option maxRecDepth 100000
set_option maxHeartbeats 4000000
namespace W73
open PySem PySem.Spec PyProof.Rows L2
open C8 (Cal Met Mak pe_c pe_mk pe_mt pe_mt0 pe_gc pss_cut tCut)
section
variable {P : Program} {w : World} {K : PySem.W.Frag} {mg : Str → Option Value} {base : Heap}
/-! ### Draft.frames -/
def put1 (fr : List (List Int)) (f p w : Int) : List (List Int) := fr.set f.toNat (((fr[f.toNat]?).getD []).set p.toNat w)
def put2 (cs : List (List Key × V)) (fr : List (List Int)) (kv : List Key × V) : List (List Int) := match kv.1, valV cs kv.1 with
  | [Sum.inl f, Sum.inl p], some (.int w) => put1 fr f p w
  | _, _ => fr
def frs (fr : List (List Int)) (cs : List (List Key × V)) : List (List Int) := cs.foldl (put2 cs) fr
theorem put2_len {cs : List (List Key × V)} {fr : List (List Int)} {kv : List Key × V} : (put2 cs fr kv).length = fr.length := by
  unfold put2 put1
  split <;> simp
theorem pairNe {H : Hp} {d : Addr} {o : HO} {xs : List Addr} {ys : List (List Int)} (hn : d ∉ xs) (h : Paired (fun a (row : List Int) => H a = some (.lst (row.map V.int))) xs ys) : Paired (fun a (row : List Int) => (upd H d o) a = some (.lst (row.map V.int))) xs ys := by
  induction h with
  | nil => exact .nil
  | cons r t ih =>
    simp only [List.mem_cons, not_or] at hn
    exact .cons ((upd_ne fun z => hn.1 z.symm).trans r) (ih hn.2)
theorem setPair {H : Hp} {ds : List Addr} {rows : List (List Int)} {d : Addr} {r : List Int} (h : Paired (fun a (row : List Int) => H a = some (.lst (row.map V.int))) ds rows) : ∀ {i : Nat}, ds.Nodup → ds[i]? = some d → Paired (fun a (row : List Int) => (upd H d (.lst (r.map V.int))) a = some (.lst (row.map V.int))) ds (rows.set i r) := by
  induction h with
  | nil => intro i _ h; simp at h
  | cons q t ih =>
    intro i nd h
    have nd := List.nodup_cons.mp nd
    cases i with
    | zero =>
      simp at h
      subst h
      exact .cons upd_same (pairNe nd.1 t)
    | succ i =>
      rw [List.getElem?_cons_succ] at h
      exact .cons ((upd_ne fun z => nd.1 (by rw [z]; exact List.mem_of_getElem? h)).trans q) (ih nd.2 h)
def sp_dframes (K : PySem.W.Frag) : Sp := sp1 fun x H Q => ∃ a se ms c n, x = .ref a.d ∧ Dn K H a se ms c n ∧ ∀ F H', Same H H' → FrAt H' F (frs c.fr ms.cells) → H F = none → Q (.ref F) H'
theorem ok_frames (T : Tz P w K mg) : Met P w K mg base 1 (C_Draft K) "frames" (sp_dframes K) [] := by
  refine mk_Draft_frames T.toTx len1 fun f cdv A outer s H vs Q E hr h => ?_
  obtain ⟨_, rfl, a, se, ms, c, n, rfl, h, k⟩ := h
  have hu := hu_of hr
  have hz := sizeL
  have vw := h.view
  have ⟨vdx, mm, F0, sp, o, q, mp, hv, _, ⟨as, hF, hp⟩, _⟩ := vw
  have hi := h.dr.i
  refine ⟨_, (pss_cons (ps_setLc (i := 1)  (own := [("frame", 3)]) (g := gName 3) (tt := tYes) (by rfl) sc_Draft_frames.nd rfl rfl (sw_true rfl rfl rfl (by decide +kernel)) (pi_list (pe_fld (pe_fld (pv 0) rfl) rfl)) (blkOk_by (N := ["self", "found", "spot", "frame"]) (sc := defScope s_Draft_frames) (by decide +kernel)) (fun _ _ _ _ _ => (pg_name (i := 3) sc_Draft_frames.nd rfl (Or.inl rfl))) (fun _ _ _ _ _ => pts_nil) (fun _ _ _ _ _ => (pe_callTy call_listH (by rfl) T.b_list boot_list (pa_cons (pv 3) pa_nil))))
    (pss_cons (ps_lock (ps_for PassesOwn.never rfl (pi_keys (pe_fld (pv 0) rfl)) (pg_name (i := 2) sc_Draft_frames.nd rfl (Or.inl rfl)) (pss_one (ps_asg (pe_dget hu (pe_fld (pv 0) rfl) (pv 2) (fun _ _ => rfl)) (pg_sub (pe_ix ix_list (pv 1) (pe_ix ix_tup (pv 2) pe_int (fun _ _ => rfl)) (fun _ _ => rfl)) (pe_ix ix_tup (pv 2) pe_int (fun _ _ => rfl)) set_list)))))
    (pss_one (ps_ret (pv 1))))), ?_⟩
  have ll := Paired.length hp
  have frl := h.co.frl
  refine ⟨_, rfl, a.d, _, a.dx, _, _, rfl, hi, T.c_Draft, T.n_Draft_view, rfl, a.v, _, vdx, _, _, rfl, hv, T.c_BoxView, T.n_BoxView_frame_rows, rfl, F0, rfl, ⟨_, .inl (.inl hF)⟩, fun D hD => ?_⟩
  refine lc_copy (walk_list (xs := as.map V.ref)) (by omega) hD (fun _ m => .inl (.inl (m _ _ hF))) hp (fun a row H2 R ha hR => ?_) fun H1 ds m1 hD1 pd nd fr => ?_
  · exact ⟨rfl, _, rfl, a, _, rfl, .inl ha, hR⟩
  have d1 := h.dr.same m1
  refine ⟨a.ce, _, d1.ce, trivial, fun od => ?_⟩
  have ed : (upd H1 a.ce (.frz od (.dT ms.cells))) a.ce = some (.frz od (.dT ms.cells)) := upd_same
  have hf : ∀ H', H' a.ce = some (.frz od (.dT ms.cells)) → (∀ b o, b ∉ ds → (upd H1 a.ce (.frz od (.dT ms.cells))) b = some o → H' b = some o) → Same H (upd H' a.ce (.dT ms.cells)) := fun H' e0 m => fun b o e => by
    by_cases hb : b = a.ce
    · rw [hb, upd_same, ← h.dr.ce, ← hb, e]
    · rw [upd_ne hb]
      refine m b o (fun z => ?_) ((upd_ne hb).trans (m1 _ _ e))
      rw [(fr b z).1] at e
      cases e
  have nf : ∀ {b u}, H1 b = some u → (∀ z, u ≠ .dT z) → (upd H1 a.ce (.frz od (.dT ms.cells))) b = some u := fun {b u} e n => (upd_ne (fun z => by rw [z, d1.ce] at e; cases e; exact n _ rfl)).trans e
  have hi2 := nf d1.i fun _ z => by cases z
  have hD2 := nf hD1 fun _ z => by cases z
  have pd2 := L2.Paired.mapP pd fun _ _ e => nf e fun _ z => by cases z
  have nid : a.d ∉ ds := fun z => by rw [(fr _ z).1] at hi; cases hi
  have nce : a.ce ∉ ds := fun z => by have := h.dr.ce; rw [(fr _ z).1] at this; cases this
  have nD : D ∉ ds := fun z => (fr _ z).2 rfl
  generalize upd H1 a.ce (.frz od (.dT ms.cells)) = H2 at ed hf hi2 hD2 pd2
  refine ⟨_, rfl, a.d, _, a.dx, _, _, rfl, hi2, T.c_Draft, T.n_Draft_cells, rfl, a.ce, od, rfl, .inr ⟨ms.cells, ed, ?_⟩⟩
  refine for_it walk_keysT (fun i σ H3 => ∃ u, σ = [some (.ref a.d), some (.ref D), u, none] ∧ (∀ b o, b ∉ ds → H2 b = some o → H3 b = some o) ∧ Paired (fun a (row : List Int) => H3 a = some (.lst (row.map V.int))) ds ((ms.cells.take i).foldl (put2 ms.cells) c.fr) ∧ ((ms.cells.take i).foldl (put2 ms.cells) c.fr).length = c.fr.length ∧ ∀ row ∈ (ms.cells.take i).foldl (put2 ms.cells) c.fr, (row.length : Int) = c.g.pl) ⟨_, rfl, fun _ _ _ e => e, pd2, rfl, h.co.row⟩ (fun i σ H3 _ ⟨_, _, q, _⟩ => q _ _ nce ed) (fun i x σ H3 H3' hi3 ⟨u, eσ, m3, p3, l3, r3⟩ y => ?_) fun σ H3 ⟨u, eσ, m3, p3, l3, r3⟩ => ?_
  · obtain ⟨rfl, ky, v, t, hkv, rfl, ht⟩ := y
    subst eσ
    obtain ⟨ff, pp, w0, e0, f0, f1, p0, p1⟩ := h.ok.ce _ (List.mem_of_getElem? hkv)
    obtain ⟨rfl, rfl⟩ := Prod.mk.inj e0
    obtain ⟨z, hc⟩ : ∃ z, valV ms.cells [Sum.inl ff, Sum.inl pp] = some z := by
      have : ((ms.cells).any fun kv => decide (kv.1 = [Sum.inl ff, Sum.inl pp])) = true := List.any_eq_true.mpr ⟨_, List.mem_of_getElem? hkv, by simp⟩
      rw [valV_any] at this
      exact Option.isSome_iff_exists.mp this
    obtain ⟨_, _, w', e1, _⟩ := h.ok.ce _ (valV_mem hc)
    obtain rfl : z = .int w' := (Prod.mk.inj e1).2
    have step : (ms.cells.take (i + 1)).foldl (put2 ms.cells) c.fr = put1 ((ms.cells.take i).foldl (put2 ms.cells) c.fr) ff pp w' := by
      rw [List.take_succ, hkv, List.foldl_append]
      show put2 ms.cells _ _ = _
      unfold put2
      dsimp only
      rw [hc]
    rw [step]
    generalize (ms.cells.take i).foldl (put2 ms.cells) c.fr = rows at p3 l3 r3
    obtain ⟨ff, rfl⟩ := Int.eq_ofNat_of_zero_le f0
    obtain ⟨pp, rfl⟩ := Int.eq_ofNat_of_zero_le p0
    have hff : ff < rows.length := by omega
    obtain ⟨d, hd, hrow⟩ := Paired.at' p3 (List.getElem?_eq_getElem hff)
    have hl := r3 _ (List.getElem_mem hff)
    refine ⟨_, rfl, a.d, _, a.dx, _, _, rfl, m3 _ _ nid hi2, T.c_Draft, T.n_Draft_cells, rfl, _, rfl, a.ce, .int w', rfl, .inr ⟨_, [Sum.inl (ff : Int), Sum.inl (pp : Int)], t, .inr ⟨od, m3 _ _ nce ed⟩, rfl, ht, hc.symm⟩, ?_⟩
    refine ⟨_, rfl, _, rfl, _, _, _, _, rfl, rfl, .inl (.inl ht), rfl, _, _, _, .ref d, rfl, rfl, .inl (.inl (m3 _ _ nD hD2)), atI_nat (by rw [List.getElem?_map, hd]; rfl), ?_⟩
    refine ⟨_, rfl, _, _, _, _, rfl, rfl, .inl (.inl ht), rfl, _, _, _, pp, rfl, rfl, hrow, ixN_nat (by simp; omega), _, rfl, fun b o hb e => ?_, ?_, ?_, ?_⟩
    · have : b ≠ d := fun z => hb (z ▸ List.mem_of_getElem? hd)
      exact (upd_ne this).trans (m3 _ _ hb e)
    · rw [← List.map_set (f := V.int) (a := w')]
      unfold put1
      rw [Int.toNat_natCast, Int.toNat_natCast, List.getElem?_eq_getElem hff]
      exact setPair p3 nd hd
    · unfold put1
      simpa using l3
    · intro row hr
      unfold put1 at hr
      rw [Int.toNat_natCast, Int.toNat_natCast, List.getElem?_eq_getElem hff] at hr
      rcases List.mem_or_eq_of_mem_set hr with hr | rfl
      · exact r3 _ hr
      · rw [List.length_set]
        exact hl
  · subst eσ
    have e3 := m3 _ _ nce ed
    have nDe : D ≠ a.ce := fun z => by have := h.dr.ce; rw [← z, hD] at this; cases this
    refine ⟨e3, _, rfl, k _ _ (hf _ e3 m3) ⟨ds, (upd_ne nDe).trans (m3 _ _ nD hD2), L2.Paired.mapP (by rw [List.take_length] at p3; exact p3) fun b _ e => (upd_ne fun z => by rw [z, e3] at e; cases e).trans e⟩ hD⟩
end
end W73
set_option Elab.async false
set_option linter.all false
set_option maxRecDepth 100000
set_option maxHeartbeats 4000000
namespace W73
open PySem PySem.Spec PyProof.Rows L2
open C8 (Cal Met Mak pe_c pe_mk pe_mt pe_mt0 pe_gc pss_cut tCut)
section
variable {P : Program} {w : World} {K : PySem.W.Frag} {mg : Str → Option Value} {base : Heap}
/-- `{port: .. for port in d}` -/
theorem dq_lock {C : Str → Addr → Hp → Prop} (hm : ∀ s l H H', Same H H' → C s l H → C s l H') (hu : ∀ s l H D o kv', H D = some o → (∀ xs, o ≠ .lst xs) → (∀ xs, o ≠ .tup xs) → C s l H → C s l (upd H D (.dK kv')))
    (hn : ∀ s l H, C s l H → H l ≠ none) {d : Addr} {x1 x2 : V} {ti tv : TE} {i : Nat} {σ : L2.St} {H : Hp} {Q : VK} (hi : i < σ.length) (hd : H d = some (.dK [(Sum.inr "tty", x1), (Sum.inr "keys", x2)]))
    (hti : ∀ od (R : VK), R (.ref d) (upd H d (.frz od (.dK [(Sum.inr "tty", x1), (Sum.inr "keys", x2)]))) → ti σ (upd H d (.frz od (.dK [(Sum.inr "tty", x1), (Sum.inr "keys", x2)]))) R)
    (hs : ∀ od (s : Str) x H2 (R : VK), (s = "tty" ∧ x = x1 ∨ s = "keys" ∧ x = x2) → valV ([(Sum.inr "tty", x1), (Sum.inr "keys", x2)] : List (Key × V)) (Sum.inr s) = some x → Same (upd H d (.frz od (.dK [(Sum.inr "tty", x1), (Sum.inr "keys", x2)]))) H2 → (∀ l H4, H2 l = none → Same H2 H4 → C s l H4 → R (.ref l) H4) → tv ((wipe σ [i]).set i (some (.str s))) H2 R)
    (k : ∀ D l1 l2 H', Same H H' → H' D = some (.dK [(Sum.inr "tty", .ref l1), (Sum.inr "keys", .ref l2)]) → C "tty" l1 H' → C "keys" l2 H' → l1 ≠ l2 → H D = none → H l1 = none → H l2 = none → Q (.ref D) H') :
    tLockE (tDq false (iKeys ti) (gName i) tYes (tVar i) tv [i]) σ H Q := by
  refine ⟨d, _, hd, trivial, fun od => hti od _ ⟨d, od, rfl, .inl ⟨_, upd_same, fun D hD => ?_⟩⟩⟩
  have hD0 : H D = none := by
    by_cases z : D = d
    · rw [z, upd_same] at hD; cases hD
    · rw [← hD, upd_ne z]
  have nDd : D ≠ d := fun z => by rw [z, upd_same] at hD; cases hD
  refine dq_ports (C := C) hm hu hn hD upd_same (fun s x H2 R hx hv m hR => ?_) fun H1 l1 l2 m e c1 c2 n a1 a2 => ?_
  · refine ⟨?_, .str s, ?_, hs od s x H2 _ hx hv m hR⟩
    · show (((wipe σ []).set i none).set i (some (V.str s))).set i none = (wipe σ []).set i none
      rw [List.set_set, List.set_set]
    · rw [List.getElem?_set_self (by rw [wipe_length]; exact hi)]
  · have fr : H1 d = some (.frz od (.dK [(Sum.inr "tty", x1), (Sum.inr "keys", x2)])) := m _ _ upd_same
    have un : ∀ b, (upd H d (.frz od (.dK [(Sum.inr "tty", x1), (Sum.inr "keys", x2)]))) b = none → H b = none := fun b e => by
      by_cases z : b = d
      · rw [z, upd_same] at e; cases e
      · rw [← e, upd_ne z]
    refine ⟨fr, k D l1 l2 _ (Same.unlock hd m) ((upd_ne nDd).trans e) (hu _ _ _ _ _ _ fr (by simp) (by simp) c1) (hu _ _ _ _ _ _ fr (by simp) (by simp) c2) n hD0 (un _ a1) (un _ a2)⟩
def CL (f : Str → List Int) : Str → Addr → Hp → Prop := fun s l H => H l = some (.lst ((f s).map V.int))
theorem CL.m {f : Str → List Int} : ∀ s l H H', Same H H' → CL f s l H → CL f s l H' := fun _ _ _ _ m e => m _ _ e
theorem CL.u {f : Str → List Int} : ∀ s l H D o kv', H D = some o → (∀ xs, o ≠ .lst xs) → (∀ xs, o ≠ .tup xs) → CL f s l H → CL f s l (upd H D (.dK kv')) := fun s l H D o kv' e n1 _ c => (upd_ne (ne_kind (show H l = some _ from c) e fun z => n1 _ z.symm)).trans c
theorem CL.n {f : Str → List Int} : ∀ s l H, CL f s l H → H l ≠ none := fun s l H c z => by rw [show H l = some _ from c] at z; cases z
def CP (f : Str → List Int) : Str → Addr → Hp → Prop := fun s l H => ∃ ps : List Addr, H l = some (.lst (ps.map V.ref)) ∧ Paired (fun p (n : Int) => H p = some (.tup [.int 0, .int n])) ps (f s)
theorem CP.m {f : Str → List Int} : ∀ s l H H', Same H H' → CP f s l H → CP f s l H' := fun _ _ _ _ m ⟨ps, e, p⟩ => ⟨ps, m _ _ e, L2.Paired.mapP p fun _ _ e => m _ _ e⟩
theorem CP.u {f : Str → List Int} : ∀ s l H D o kv', H D = some o → (∀ xs, o ≠ .lst xs) → (∀ xs, o ≠ .tup xs) → CP f s l H → CP f s l (upd H D (.dK kv')) := fun s l H D o kv' e n1 n2 ⟨ps, c, p⟩ =>
  ⟨ps, (upd_ne (ne_kind c e fun z => n1 _ z.symm)).trans c, L2.Paired.mapP p fun _ _ q => (upd_ne (ne_kind q e fun z => n2 _ z.symm)).trans q⟩
theorem CP.n {f : Str → List Int} : ∀ s l H, CP f s l H → H l ≠ none := fun s l H ⟨_, c, _⟩ z => by rw [c] at z; cases z
/-- the lists by the ports -/
def two (t k : List Int) : Str → List Int := fun s => if s = "tty" then t else k
theorem two_t {t k : List Int} : two t k "tty" = t := rfl
theorem two_k {t k : List Int} : two t k "keys" = k := if_neg (by decide)
def ms0 (c : Cv) (rs : List Int) : Ms := ⟨rs, [0, 0, 0, 0], [], c.sw, c.tty, c.keys, none⟩
def sp_Draft_init (K : PySem.W.Frag) : Sp := sp4 fun x b r o H Q => ∃ y dx v c rg rs so se, x = .ref y ∧ H y = some (.ins (C_Draft K) dx []) ∧ b = .ref v ∧ ViewAt K (Wo [y] H) v c ∧ r = .ref rg ∧ H rg = some (.lst (rs.map V.int)) ∧ o = .ref so ∧ H so = some (.tup (se.map V.int)) ∧
  ∀ H' a, a.d = y → a.v = v → Bt y H H' → DrAt K H' a se (ms0 c rs) → (∀ x ∈ a.ou :: a.an :: a.S, x ≠ y → H x = none) → Q .non H'
theorem ok_Draft_init (T : Tz P w K mg) : Mak P w K mg base 1 "Draft" (C_Draft K) (sp_Draft_init K) [] := by
  refine mk_Draft_init T.toTx len4 fun f cdv A outer s H vs Q E hr h => ?_
  obtain ⟨_, _, _, _, rfl, y, dx, v, c, rg, rs, so, se, rfl, hy, rfl, ⟨vdx, m0, F, sw, o, q, mp, hv', hm', hF', hs', ho', hq', hmp'⟩, rfl, hrg, rfl, hso, k⟩ := h
  have hu := hu_of hr
  have hz := sizeL
  have vy : v ≠ y := fun z => by rw [z] at hv'; simp [Wo] at hv'
  refine ⟨_, (pss_cons (ps_fld (pv 0) (pv 1) rfl)
    (pss_cons (ps_fld (pv 0) (pe_callTy call_list_of (by rfl) T.b_list boot_list (pa_cons (pv 2) pa_nil)) rfl)
    (pss_cons (ps_fld (pv 0) (pv 3) rfl)
    (pss_cons (ps_fld (pv 0) (pe_lst (pa_cons pe_int (pa_cons pe_int (pa_cons pe_int (pa_cons pe_int pa_nil))))) rfl)
    (pss_cons (ps_fld (pv 0) pe_dnewT rfl)
    (pss_cons (ps_fld (pv 0) (pe_callTy call_dictD (by rfl) T.b_dict boot_dict (pa_cons (pe_fld (pv 1) rfl) pa_nil)) rfl)
    (pss_cons (ps_fld (pv 0) (pe_lock (pe_dq (tk := tVar 4) (tv := tCB rListH (tCons (tDGet (tFld K (tVar 1) "out_rows") (tVar 4)) tNil)) (own := [("port", 4)]) (g := gName 4) (tt := tYes) false hu rfl sc_Draft_init.nd (pi_keys (pe_fld (pv 1) rfl)) (blkOk_by (N := ["self", "view", "registers", "operands", "port"]) (sc := defScope s_Draft_init) (by decide +kernel)) (fun _ _ _ _ _ => (pg_name (i := 4) sc_Draft_init.nd rfl (Or.inl rfl))) (fun _ _ _ _ _ => pts_nil) (fun _ _ _ _ _ => (pv 4)) (fun _ _ _ _ _ => (pe_callTy call_listH (by rfl) T.b_list boot_list (pa_cons (pe_dget hu (pe_fld (pv 1) rfl) (pv 4) (fun _ _ => rfl)) pa_nil))))) rfl)
    (pss_cons (ps_fld (pv 0) (pe_lock (pe_dq (tk := tVar 4) (tv := tCB rListH (tCons (tDGet (tFld K (tVar 1) "answer_rows") (tVar 4)) tNil)) (own := [("port", 4)]) (g := gName 4) (tt := tYes) false hu rfl sc_Draft_init.nd (pi_keys (pe_fld (pv 1) rfl)) (blkOk_by (N := ["self", "view", "registers", "operands", "port"]) (sc := defScope s_Draft_init) (by decide +kernel)) (fun _ _ _ _ _ => (pg_name (i := 4) sc_Draft_init.nd rfl (Or.inl rfl))) (fun _ _ _ _ _ => pts_nil) (fun _ _ _ _ _ => (pv 4)) (fun _ _ _ _ _ => (pe_callTy call_listH (by rfl) T.b_list boot_list (pa_cons (pe_dget hu (pe_fld (pv 1) rfl) (pv 4) (fun _ _ => rfl)) pa_nil))))) rfl)
    (pss_one (ps_fld (pv 0) pe_non rfl)))))))))), ?_⟩
  refine ⟨_, rfl, _, rfl, y, _, dx, _, rfl, hy, T.c_Draft, T.n_Draft_view, by simp, ?_⟩
  generalize hH : upd H y _ = H1
  have b1 : Bt y H H1 := hH ▸ .put
  have e1 : H1 y = some (.ins (C_Draft K) dx [("view", .ref v)]) := by rw [← hH]; exact upd_same
  clear hH
  have nrg : rg ≠ y := fun z => by rw [z, hy] at hrg; cases hrg
  have nso : so ≠ y := fun z => by rw [z, hy] at hso; cases hso
  have hn0 : ∀ {Hn : Hp} {b : Addr}, Bt y H Hn → Hn b = none → b ≠ y → H b = none := fun {Hn b} m e n => by
    cases q : H b with
    | none => rfl
    | some u => rw [m b u n q] at e; cases e
  refine ⟨_, rfl, rg, _, rfl, .inl (.inl (.inl (b1 _ _ nrg hrg))), fun l2 hl2 => ?_⟩
  have m2 := Same.new (o := .lst (rs.map V.int)) hl2
  have el2 : (upd H1 l2 (.lst (rs.map V.int))) l2 = some (.lst (rs.map V.int)) := upd_same
  generalize upd H1 l2 (.lst (rs.map V.int)) = H2 at m2 el2 ⊢
  have n2 : l2 ≠ y := fun z => by rw [z, e1] at hl2; cases hl2
  have z2 := hn0 b1 hl2 n2
  refine ⟨_, rfl, y, _, dx, _, rfl, m2 _ _ e1, T.c_Draft, T.n_Draft_spots, by simp, ?_⟩
  generalize hH : upd H2 y _ = H3
  have c3 : Bt y H2 H3 := hH ▸ .put
  have b3 : Bt y H H3 := (b1.trans (.of m2)).trans c3
  have e3 : H3 y = some (.ins (C_Draft K) dx [("view", .ref v), ("spots", .ref l2)]) := by rw [← hH]; exact upd_same
  clear hH
  refine ⟨_, rfl, _, rfl, y, _, dx, _, rfl, e3, T.c_Draft, T.n_Draft_seats, by simp, ?_⟩
  generalize hH : upd H3 y _ = H4
  have c4 : Bt y H3 H4 := hH ▸ .put
  have b4 : Bt y H H4 := b3.trans c4
  have e4 : H4 y = some (.ins (C_Draft K) dx [("view", .ref v), ("spots", .ref l2), ("seats", .ref so)]) := by rw [← hH]; exact upd_same
  clear hH
  refine ⟨by show 4 ≤ sizeLine; decide, fun l5 hl5 => ?_⟩
  have m5 := Same.new (o := .lst [.int 0, .int 0, .int 0, .int 0]) hl5
  have el5 : (upd H4 l5 (.lst [.int 0, .int 0, .int 0, .int 0])) l5 = some (.lst ([0, 0, 0, 0].map V.int)) := upd_same
  generalize upd H4 l5 (.lst [.int 0, .int 0, .int 0, .int 0]) = H5 at m5 el5 ⊢
  have n5 : l5 ≠ y := fun z => by rw [z, e4] at hl5; cases hl5
  have z5 := hn0 b4 hl5 n5
  refine ⟨_, rfl, y, _, dx, _, rfl, m5 _ _ e4, T.c_Draft, T.n_Draft_temporaries, by simp, ?_⟩
  generalize hH : upd H5 y _ = H6
  have c6 : Bt y H5 H6 := hH ▸ .put
  have b6 : Bt y H H6 := (b4.trans (.of m5)).trans c6
  have e6 : H6 y = some (.ins (C_Draft K) dx [("view", .ref v), ("spots", .ref l2), ("seats", .ref so), ("temporaries", .ref l5)]) := by rw [← hH]; exact upd_same
  clear hH
  intro l7 hl7
  have m7 := Same.new (o := .dT []) hl7
  have el7 : (upd H6 l7 (.dT [])) l7 = some (.dT []) := upd_same
  generalize upd H6 l7 (.dT []) = H7 at m7 el7 ⊢
  have n7 : l7 ≠ y := fun z => by rw [z, e6] at hl7; cases hl7
  have z7 := hn0 b6 hl7 n7
  refine ⟨_, rfl, y, _, dx, _, rfl, m7 _ _ e6, T.c_Draft, T.n_Draft_cells, by simp, ?_⟩
  generalize hH : upd H7 y _ = H8
  have c8 : Bt y H7 H8 := hH ▸ .put
  have b8 : Bt y H H8 := (b6.trans (.of m7)).trans c8
  have e8 : H8 y = some (.ins (C_Draft K) dx [("view", .ref v), ("spots", .ref l2), ("seats", .ref so), ("temporaries", .ref l5), ("cells", .ref l7)]) := by rw [← hH]; exact upd_same
  clear hH
  have W8 : ∀ {b u}, Wo [y] H b = some u → H8 b = some u := fun {b u} e => b8 _ _ (fun z => by rw [z] at e; simp [Wo] at e) (Wo.to _ _ e)
  refine ⟨_, rfl, v, _, vdx, _, _, rfl, W8 hv', T.c_BoxView, T.n_BoxView_special_words, rfl, sw, _, rfl, .inl (W8 hs'), fun l9 hl9 => ?_⟩
  have m9 := Same.new (o := .dK (spK c.sw)) hl9
  have el9 : (upd H8 l9 (.dK (spK c.sw))) l9 = some (.dK (spK c.sw)) := upd_same
  generalize upd H8 l9 (.dK (spK c.sw)) = H9 at m9 el9 ⊢
  have n9 : l9 ≠ y := fun z => by rw [z, e8] at hl9; cases hl9
  have z9 := hn0 b8 hl9 n9
  refine ⟨_, rfl, y, _, dx, _, rfl, m9 _ _ e8, T.c_Draft, T.n_Draft_special_words, by simp, ?_⟩
  generalize hH : upd H9 y _ = H10
  have c10 : Bt y H9 H10 := hH ▸ .put
  have b10 : Bt y H H10 := (b8.trans (.of m9)).trans c10
  have e10 : H10 y = some (.ins (C_Draft K) dx [("view", .ref v), ("spots", .ref l2), ("seats", .ref so), ("temporaries", .ref l5), ("cells", .ref l7), ("special_words", .ref l9)]) := by rw [← hH]; exact upd_same
  clear hH
  have W10 : ∀ {b u}, Wo [y] H b = some u → H10 b = some u := fun {b u} e => b10 _ _ (fun z => by rw [z] at e; simp [Wo] at e) (Wo.to _ _ e)
  obtain ⟨oa, ob, ho1, hoa, hob, nab⟩ := ho'
  have eo := W10 ho1
  try unfold tSeq
  dsimp only
  try unfold sFld
  show tLockE _ _ _ _
  refine dq_lock (C := CL (two c.tty [])) CL.m CL.u CL.n ?_ eo (fun od R hR => ⟨_, rfl, v, _, vdx, _, _, rfl, (upd_ne (ne_kind (W10 hv') eo (by simp))).trans (W10 hv'), T.c_BoxView, T.n_BoxView_out_rows, rfl, hR⟩) (fun od s x H2 R hx hvx m hR => ?_) fun D1 la lb H11 m11 eD1 ca cb nab2 zD1 za zb => ?_
  · show 4 < 5; decide
  · have hv2 := m _ _ ((upd_ne (ne_kind (W10 hv') eo (by simp))).trans (W10 hv'))
    obtain ⟨q, rfl, hq⟩ : ∃ q, x = .ref q ∧ H2 q = some (.lst ((two c.tty [] s).map V.int)) := by
      rcases hx with ⟨rfl, rfl⟩ | ⟨rfl, rfl⟩
      · exact ⟨_, rfl, m _ _ ((upd_ne (ne_kind (W10 hoa) eo (by simp))).trans (W10 hoa))⟩
      · exact ⟨_, rfl, m _ _ ((upd_ne (ne_kind (W10 hob) eo (by simp))).trans (W10 hob))⟩
    exact ⟨_, rfl, v, _, vdx, _, _, rfl, hv2, T.c_BoxView, T.n_BoxView_out_rows, rfl, _, rfl, o, .ref q, rfl, .inl ⟨_, Sum.inr s, .inr ⟨od, m _ _ upd_same⟩, rfl, hvx.symm⟩, q, _, rfl, .inl hq, fun l hl => hR l _ hl (Same.new hl) upd_same⟩
  have nD1 : D1 ≠ y := fun z => by rw [z, e10] at zD1; cases zD1
  have na : la ≠ y := fun z => by rw [z, e10] at za; cases za
  have nb : lb ≠ y := fun z => by rw [z, e10] at zb; cases zb
  have y1 := hn0 b10 zD1 nD1
  have ya := hn0 b10 za na
  have yb := hn0 b10 zb nb
  refine ⟨_, rfl, y, _, dx, _, rfl, m11 _ _ e10, T.c_Draft, T.n_Draft_out_rows, by simp, ?_⟩
  generalize hH : upd H11 y _ = H12
  have c12 : Bt y H11 H12 := hH ▸ .put
  have b12 : Bt y H H12 := (b10.trans (.of m11)).trans c12
  have e12 : H12 y = some (.ins (C_Draft K) dx [("view", .ref v), ("spots", .ref l2), ("seats", .ref so), ("temporaries", .ref l5), ("cells", .ref l7), ("special_words", .ref l9), ("out_rows", .ref D1)]) := by rw [← hH]; exact upd_same
  clear hH
  have W12 : ∀ {b u}, Wo [y] H b = some u → H12 b = some u := fun {b u} e => b12 _ _ (fun z => by rw [z] at e; simp [Wo] at e) (Wo.to _ _ e)
  obtain ⟨qa, qb, ps, hq1, hqa, hqb, hps, nqab⟩ := hq'
  have eq := W12 hq1
  try unfold tSeq
  dsimp only
  try unfold sFld
  show tLockE _ _ _ _
  refine dq_lock (C := CP (two [] c.keys)) CP.m CP.u CP.n ?_ eq (fun od R hR => ⟨_, rfl, v, _, vdx, _, _, rfl, (upd_ne (ne_kind (W12 hv') eq (by simp))).trans (W12 hv'), T.c_BoxView, T.n_BoxView_answer_rows, rfl, hR⟩) (fun od s x H2 R hx hvx m hR => ?_) fun D2 lc ld H13 m13 eD2 cc cd ncd2 zD2 zc zd => ?_
  · show 4 < 5; decide
  · have hv2 := m _ _ ((upd_ne (ne_kind (W12 hv') eq (by simp))).trans (W12 hv'))
    obtain ⟨q', rfl, ps', hq, hp⟩ : ∃ q', x = .ref q' ∧ CP (two [] c.keys) s q' H2 := by
      rcases hx with ⟨rfl, rfl⟩ | ⟨rfl, rfl⟩
      · exact ⟨_, rfl, [], m _ _ ((upd_ne (ne_kind (W12 hqa) eq (by simp))).trans (W12 hqa)), .nil⟩
      · exact ⟨_, rfl, ps, m _ _ ((upd_ne (ne_kind (W12 hqb) eq (by simp))).trans (W12 hqb)), L2.Paired.mapP hps fun _ _ e => m _ _ ((upd_ne (ne_kind (W12 e) eq (by simp))).trans (W12 e))⟩
    exact ⟨_, rfl, v, _, vdx, _, _, rfl, hv2, T.c_BoxView, T.n_BoxView_answer_rows, rfl, _, rfl, q, .ref q', rfl, .inl ⟨_, Sum.inr s, .inr ⟨od, m _ _ upd_same⟩, rfl, hvx.symm⟩, q', _, rfl, .inl hq, fun l hl => hR l _ hl (Same.new hl) ⟨ps', upd_same, L2.Paired.mapP hp fun _ _ e => Same.new hl _ _ e⟩⟩
  have nD2 : D2 ≠ y := fun z => by rw [z, e12] at zD2; cases zD2
  have nc : lc ≠ y := fun z => by rw [z, e12] at zc; cases zc
  have nd : ld ≠ y := fun z => by rw [z, e12] at zd; cases zd
  have y2 := hn0 b12 zD2 nD2
  have yc := hn0 b12 zc nc
  have yd := hn0 b12 zd nd
  refine ⟨_, rfl, y, _, dx, _, rfl, m13 _ _ e12, T.c_Draft, T.n_Draft_answer_rows, by simp, ?_⟩
  generalize hH : upd H13 y _ = H14
  have c14 : Bt y H13 H14 := hH ▸ .put
  have b14 : Bt y H H14 := (b12.trans (.of m13)).trans c14
  have e14 : H14 y = some (.ins (C_Draft K) dx [("view", .ref v), ("spots", .ref l2), ("seats", .ref so), ("temporaries", .ref l5), ("cells", .ref l7), ("special_words", .ref l9), ("out_rows", .ref D1), ("answer_rows", .ref D2)]) := by rw [← hH]; exact upd_same
  clear hH
  refine ⟨_, rfl, y, _, dx, _, rfl, e14, T.c_Draft, T.n_Draft_goal, by simp, ?_⟩
  generalize hH : upd H14 y _ = H15
  have c15 : Bt y H14 H15 := hH ▸ .put
  have b15 : Bt y H H15 := b14.trans c15
  have e15 : H15 y = some (.ins (C_Draft K) dx [("view", .ref v), ("spots", .ref l2), ("seats", .ref so), ("temporaries", .ref l5), ("cells", .ref l7), ("special_words", .ref l9), ("out_rows", .ref D1), ("answer_rows", .ref D2), ("goal", .non)]) := by rw [← hH]; exact upd_same
  clear hH
  have f13 : Bt y H13 H15 := c14.trans c15
  have f11 : Bt y H11 H15 := (c12.trans (.of m13)).trans f13
  have f9 : Bt y H9 H15 := (c10.trans (.of m11)).trans f11
  have f7 : Bt y H7 H15 := (c8.trans (.of m9)).trans f9
  have f5 : Bt y H5 H15 := (c6.trans (.of m7)).trans f7
  have f2 : Bt y H2 H15 := ((c3.trans c4).trans (.of m5)).trans f5
  obtain ⟨ps2, hd1, hd2⟩ := cd
  obtain ⟨ps3, hc1, hc2⟩ := cc
  cases hc2
  rw [two_k] at hd2
  have ne : ∀ {Ha Hb : Hp} {a b : Addr} {u : HO}, Bt y Ha Hb → a ≠ y → Ha a = some u → Hb b = none → a ≠ b := fun {Ha Hb a b u} m n e z q => by
    rw [← q, m a u n e] at z
    cases z
  have g25 : Bt y H2 H4 := c3.trans c4
  have g510 : Bt y H5 H10 := ((c6.trans (.of m7)).trans c8).trans ((Bt.of m9).trans c10)
  have g1012 : Bt y H10 H12 := (Bt.of m11).trans c12
  have g210 : Bt y H2 H10 := (g25.trans (.of m5)).trans g510
  refine k _ ⟨y, dx, v, l2, so, l5, l7, l9, D1, D2, la, lb, lc, ld⟩ rfl rfl b15 ⟨e15, f2 _ _ n2 el2, b15 _ _ nso hso, f5 _ _ n5 el5, f7 _ _ n7 el7, f9 _ _ n9 el9, f11 _ _ nD1 eD1, f11 _ _ na ca, f11 _ _ nb cb, f13 _ _ nD2 eD2, f13 _ _ nc hc1, ⟨ps2, f13 _ _ nd hd1, L2.Paired.mapP hd2 fun _ _ e => f13 _ _ (fun z => by rw [z, m13 _ _ e12] at e; cases e) e⟩, ?_, ?_⟩ ?_
  · simp only [List.nodup_cons, List.mem_cons, List.not_mem_nil, or_false, not_or, not_false_eq_true, List.nodup_nil, and_true]
    exact ⟨⟨ne g25 n2 el2 hl5, ne g210 n2 el2 za, ne g210 n2 el2 zb, ne (g210.trans g1012) n2 el2 zc, ne (g210.trans g1012) n2 el2 zd⟩, ⟨ne g510 n5 el5 za, ne g510 n5 el5 zb, ne (g510.trans g1012) n5 el5 zc, ne (g510.trans g1012) n5 el5 zd⟩, ⟨nab2, ne c12 na ca zc, ne c12 na ca zd⟩, ⟨ne c12 nb cb zc, ne c12 nb cb zd⟩, ncd2⟩
  · simp only [List.nodup_cons, List.mem_cons, List.not_mem_nil, or_false, not_or, not_false_eq_true, List.nodup_nil, and_true]
    exact ⟨⟨ne c10 n9 el9 zD1, ne (c10.trans g1012) n9 el9 zD2⟩, ne c12 nD1 eD1 zD2⟩
  · intro x hx hn
    simp only [DA.S, List.mem_cons, List.not_mem_nil, or_false] at hx
    rcases hx with rfl | rfl | rfl | rfl | rfl | rfl | rfl | rfl | rfl
    · exact y1
    · exact y2
    · exact absurd rfl hn
    all_goals assumption
end
end W73
set_option Elab.async false
set_option linter.all false
set_option maxRecDepth 100000
set_option maxHeartbeats 4000000
namespace W73
open PySem PySem.Spec PyProof.Rows L2
open C8 (Cal Met Mak pe_c pe_mk pe_mt pe_mt0 pe_gc pss_cut tCut)
section
variable {P : Program} {w : World} {K : PySem.W.Frag} {mg : Str → Option Value} {base : Heap}
theorem run1_ok {c : Cv} {se : List Int} {m : Nat} (hc : c.ok) : ∀ {l : List Row} {ms : Ms} {n : Nat}, ms.ok c se (n + bud m * l.length) → (∀ r ∈ l, r.ok se.length m = true) → (run1 c se ms l).1.ok c se n
  | [], _, _, h, _ => h.le (by simp)
  | r :: l, ms, n, h, hr => by
    have h1 := step1_ok (n := n + bud m * l.length) hc (h.le (by rw [List.length_cons, Nat.mul_add, Nat.mul_one]; omega)) (hr _ (List.mem_cons_self ..))
    unfold run1
    split
    · rename_i e
      rw [e] at h1
      exact run1_ok hc h1 fun r hr' => hr r (List.mem_cons_of_mem _ hr')
    · rename_i e
      rw [e] at h1
      exact h1.le (by omega)
/-- what tried answers: a bad end, or a draft -/
def tr (c : Cv) (rs : List Int) (pc : Int) : D ⊕ (List Int × Ms) := match spt c pc 120 with
  | none => .inl (.t [.s "refused", .i pc, .s "x"])
  | some (f, p) => match c.g.code (wat c.fr f p) with
    | none => .inl (.t [.s "code"])
    | some (x, ns) => match insOf c.g.is x with
      | none => .inl (.t [.s "code"])
      | some i => match run1 c ns (ms0 c rs) i.us with
        | (_, some d) => .inl d
        | (ms, none) => .inr (ns, ms)
def sp_tried (K : PySem.W.Frag) : Sp := sp4 fun vw rg pc u H Q => ∃ v c r rs n, vw = .ref v ∧ ViewAt K H v c ∧ c.ok ∧ rg = .ref r ∧ H r = some (.lst (rs.map V.int)) ∧ rs.length ≤ 1000 ∧ (rs.length : Int) = c.g.r ∧ pc = .int n ∧ u = .bl true ∧
  (∀ d x H', tr c rs n = .inl d → Same H H' → TD' H' d x → Q x H') ∧
  ∀ se ms t a H', tr c rs n = .inr (se, ms) → Same H H' → H' t = some (.tup [.str "done", .ref a.d]) → Dn K H' a se ms c 0 → (∀ x ∈ a.ou :: a.an :: a.S, H x = none) → a.v = v → Q (.ref t) H'
theorem ok_tried (T : Tz P w K mg) : Cal P w K mg base 7 "tried" (sp_tried K) [] := by
  have c_carry0 : Cal P w K mg base 4 "carry_out" (sp2 fun _ _ _ _ => False) [] := mk_carry_out T.toTx len2 fun f cdv A outer s H vs Q E hr h => by
    obtain ⟨_, _, rfl, h⟩ := h
    exact h.elim
  have c_carry1 : Cal P w K mg base 5 "carry_out" (sp_carry K 0) [] := ok_carry T (by omega) c_carry0 fun h => absurd rfl h
  have c_carry_out : Cal P w K mg base 6 "carry_out" (sp_carry K 1) [] := ok_carry T (by omega) c_carry1 fun _ _ _ _ _ h => h
  have c_Draft : Mak P w K mg base 1 "Draft" (C_Draft K) (sp_Draft_init K) [] := ok_Draft_init T
  have c_BoxView_spot_of : Met P w K mg base 2 (C_BoxView K) "spot_of" (sp_spot_of K) [] := ok_spot_of T
  have c_BoxView_word_at : Met P w K mg base 1 (C_BoxView K) "word_at" (sp_word_at K) [] := ok_word_at T
  have c_Meaning_code_of : Met P w K mg base 1 (C_Meaning K) "code_of" (sp_Meaning_code_of K) [] := ok_Meaning_code_of T
  have c_Meaning_book : Met P w K mg base 1 (C_Meaning K) "book" (sp_Meaning_book K) [] := ok_Meaning_book T
  have c_Book_instruction : Met P w K mg base 2 (C_Book K) "instruction" (sp_Book_instruction K) [] := ok_Book_instruction T
  refine mk_tried T.toTx len4 fun f cdv A outer s H vs Q E hr h => ?_
  obtain ⟨_, _, _, _, rfl, v, c, r, rs, n, rfl, vw, co, rfl, hrs, lrs, ers, rfl, rfl, k1, k2⟩ := h
  have hz := sizeL
  have ⟨vdx, mm, _, _, _, _, _, hv, hm, _⟩ := vw
  refine ⟨_, (pss_cons (ps_set (i := 4) sc_tried.nd rfl (Or.inl rfl) (pe_mt c_BoxView_spot_of hr (by first | decide | omega) (pv 0) (pa_cons (pv 2) (pa_cons pe_str pa_nil))))
    (pss_cons (ps_if (pt_cmpR op_isN (pv 4) pe_non (nomark _)) (pss_one (ps_ret (pe_tup (pa_cons pe_str (pa_cons (pv 2) (pa_cons pe_str pa_nil)))))) pss_nil)
    (pss_cons (ps_set (i := 5) sc_tried.nd rfl (Or.inl rfl) (pe_mt c_Meaning_code_of hr (by first | decide | omega) (pe_fld (pv 0) rfl) (pa_cons (pe_mt c_BoxView_word_at hr (by first | decide | omega) (pv 0) (pa_cons (pv 4) pa_nil)) pa_nil)))
    (pss_cons (ps_if (pt_cmpR op_isN (pv 5) pe_non (nomark _)) (pss_one (ps_ret (pe_tup (pa_cons pe_str pa_nil)))) pss_nil)
    (pss_cons (ps_set (i := 6) sc_tried.nd rfl (Or.inl rfl) (pe_mk c_Draft hr (by first | decide | omega) rfl (pa_cons (pv 0) (pa_cons (pv 1) (pa_cons (pe_ix ix_tup (pv 5) pe_int (fun _ _ => rfl)) pa_nil)))))
    (pss_cons (ps_set (i := 7) sc_tried.nd rfl (Or.inl rfl) (pe_mt c_Book_instruction hr (by first | decide | omega) (pe_mt0 c_Meaning_book hr (by first | decide | omega) (pe_fld (pv 0) rfl)) (pa_cons (pe_ix ix_tup (pv 5) pe_int (fun _ _ => rfl)) pa_nil)))
    (pss_cons (ps_set (i := 8) sc_tried.nd rfl (Or.inl rfl) (pe_c c_carry_out hr (by first | decide | omega) rfl (pa_cons (pv 6) (pa_cons (pe_ifExp (pt_val (pv 3)) (pe_ix ix_tup (pv 7) pe_int (fun _ _ => rfl)) (pe_ix ix_tup (pv 7) pe_int (fun _ _ => rfl))) pa_nil))))
    (pss_one (ps_ret (pe_ifExp (pt_cmpR op_isN (pv 8) pe_non (nomark _)) (pe_tup (pa_cons pe_str (pa_cons (pv 6) pa_nil))) (pv 8))))))))))), ?_⟩
  refine ⟨_, rfl, v, vdx, _, rfl, hv, rfl, _, rfl, _, _, _, rfl, v, c, n, 120, rfl, vw, co, rfl, congrArg V.str rt_x, fun e => ?_, fun ff pp e t H1 m1 ht0 ht => ?_⟩
  · refine ⟨_, rfl, rfl, _, rfl, iteT ⟨_, rfl, by show 3 ≤ sizeLine; decide, fun t3 ht3 => ?_⟩⟩
    exact k1 _ _ _ (by unfold tr; rw [e]) (Same.new ht3) (.t upd_same (.cons (.s _) (.cons (.i _) (.cons (.s _) .nil))))
  have vw1 := vw.same m1
  have ⟨vdx1, mm1, _, _, _, _, _, hv1, hm1, _⟩ := vw1
  have ⟨mdx1, _, _, _, _, hmi1, _⟩ := hm1
  obtain ⟨⟨f0, f1⟩, p0, p1⟩ := spt_in co e
  refine ⟨_, rfl, rfl, _, rfl, iteF ?_⟩
  refine ⟨_, rfl, v, _, vdx1, _, _, rfl, hv1, T.c_BoxView, T.n_BoxView_ground, rfl, mm1, mdx1, _, rfl, hmi1, rfl, ?_⟩
  refine ⟨_, rfl, v, vdx1, _, rfl, hv1, rfl, _, rfl, _, _, rfl, v, c, t, ff, pp, rfl, vw1, co, rfl, ht, f0, f1, p0, p1, ?_⟩
  refine ⟨_, _, rfl, mm1, c.g, _, rfl, hm1, rfl, fun e2 => ?_, fun x ns cv e2 tcv => ?_⟩
  · refine ⟨_, rfl, rfl, _, rfl, iteT ⟨by show 1 ≤ sizeLine; decide, fun t3 ht3 => ?_⟩⟩
    exact k1 _ _ _ (by unfold tr; rw [e]; dsimp only; rw [e2]) (m1.trans (Same.new ht3)) (.t upd_same (.cons (.s _) .nil))
  obtain ⟨i, hi, nlen, nr⟩ := co.go.co _ _ _ e2
  obtain ⟨ct, cus, rfl, hct, cts⟩ := tcv.tup
  obtain ⟨xv, nv, rfl, tn⟩ : ∃ xv nv, cus = [xv, nv] ∧ xv = .str x ∧ TD' H1 (.t (ns.map D.i)) nv := by
    cases cts with
    | cons t1 ts =>
    cases ts with
    | cons t2 ts =>
    cases ts
    cases t1
    exact ⟨_, _, rfl, rfl, t2⟩
  obtain ⟨rfl, tn⟩ := tn
  obtain ⟨nt, nus, rfl, hnt, nts⟩ := tn.tup
  obtain rfl := nts.ints
  refine ⟨_, rfl, rfl, _, rfl, iteF ?_⟩
  refine ⟨_, rfl, _, rfl, _, rfl, _, _, _, _, rfl, rfl, .inl (.inl hct), rfl, fun y dy hy hdy ndy => ?_⟩
  have mW : Same H1 (Wo [y] (upd (upd H1 dy (.own y)) y (.ins (C_Draft K) dy []))) := fun b u e => Wo.at ((upd_ne (fun z => by rw [z, hy] at e; cases e)).trans ((upd_ne (fun z => by rw [z, hdy] at e; cases e)).trans e)) (by simp; exact fun z => by rw [z, hy] at e; cases e)
  have mT : Same H1 (upd (upd H1 dy (.own y)) y (.ins (C_Draft K) dy [])) := fun b u e => Wo.to _ _ (mW _ _ e)
  refine ⟨_, _, _, _, rfl, y, dy, v, c, r, rs, nt, ns, rfl, upd_same, rfl, vw1.same mW, rfl, mT _ _ (m1 _ _ hrs), rfl, mT _ _ hnt, fun H2 a ea ev b2 d2 fr => ⟨rfl, ?_⟩⟩
  have m2 : Same H1 H2 := b2.made hy hdy
  subst ea
  have fr1' : ∀ x ∈ a.ou :: a.an :: a.S, H1 x = none := fun x hx => by
    by_cases z : x = a.d
    · rw [z]; exact hy
    · have q := fr x hx z
      rw [upd_ne z] at q
      by_cases z2 : x = dy
      · rw [z2]; exact hdy
      · rwa [upd_ne z2] at q
  have fr1 : ∀ x ∈ a.S, H1 x = none := fun x hx => fr1' x (List.mem_cons_of_mem _ (List.mem_cons_of_mem _ hx))
  have fz : ∀ {H3 : Hp}, Frz a H2 H3 → Same H1 H3 := fun {H3} f b u e => Wo.to _ _ (f _ _ (Wo.at (m2 _ _ e) fun z => by rw [fr1 _ z] at e; cases e))
  have vwf : ViewAt K (Wo a.S H2) a.v c := by
    rw [ev]
    exact vw1.same fun b u e => Wo.at (m2 _ _ e) fun z => by rw [fr1 _ z] at e; cases e
  have mok : (ms0 c rs).ok c ns 80 := ⟨rfl, fun k hk => by have := nr k hk; show 0 ≤ k ∧ k < (rs.length : Int); omega, lrs, fun p hp => (List.not_mem_nil hp).elim, by show 0 + 80 ≤ 100000; omega, by have := co.tl; show c.tty.length + 80 ≤ 100000; omega⟩
  have dn : Dn K H2 a ns (ms0 c rs) c 80 := ⟨d2, vwf, mok, co⟩
  have vw2 := vw1.same m2
  have ⟨vdx2, mm2, _, _, _, _, _, hv2, hm2, _⟩ := vw2
  have ⟨mdx2, _, _, _, _, hmi2, _⟩ := hm2
  refine ⟨_, rfl, v, _, vdx2, _, _, rfl, hv2, T.c_BoxView, T.n_BoxView_ground, rfl, mm2, mdx2, _, rfl, hmi2, rfl, _, rfl, mm2, c.g, rfl, hm2, fun bk hbk => ?_⟩
  have ⟨bdx, _, _, _, _, hb0, _⟩ := hbk
  refine ⟨bk, bdx, _, rfl, hb0, rfl, _, rfl, _, _, _, _, rfl, rfl, .inl (.inl (m2 _ _ hct)), rfl, _, _, rfl, bk, _, _, x, i, rfl, hbk, rfl, hi, fun tv H3 m3 ttv => ?_⟩
  obtain ⟨tt, tus, rfl, htt, tts⟩ := ttv.tup
  obtain ⟨u1, u2, us', sy', rfl, tus'⟩ : ∃ u1 u2 us' sy', tus = [u1, u2, us', sy'] ∧ TD' H3 (.t (i.us.map Row.d)) us' := by
    cases tts with
    | cons t1 ts =>
    cases ts with
    | cons t2 ts =>
    cases ts with
    | cons t3 ts =>
    cases ts with
    | cons t4 ts =>
    cases ts
    exact ⟨_, _, _, _, rfl, t3⟩
  have iok := co.go.gi.ok i (List.mem_of_find?_eq_some hi)
  simp only [Ins.ok, Rows.ok, Bool.and_eq_true, decide_eq_true_eq, List.all_eq_true] at iok
  obtain ⟨⟨_, ul, ur⟩, _⟩ := iok
  have dn3 := dn.same m3
  have bl : bud 1 * i.us.length ≤ 80 := by
    show 10 * i.us.length ≤ 80
    omega
  refine ⟨_, rfl, _, rfl, _, rfl, iteT ⟨_, rfl, _, _, _, us', rfl, rfl, .inl (.inl htt), rfl, _, _, rfl, a, ns, ms0 c rs, c, 80, i.us, rfl, dn3, bl, tus', by rw [nlen]; exact ur, fun v4 H4 f4 d4 hv => ?_⟩⟩
  have m4 : Same H1 H4 := fz ((Frz.of m3).trans f4)
  have mok4 : (run1 c ns (ms0 c rs) i.us).1.ok c ns 0 := run1_ok (m := 1) co (mok.le (by omega)) (by rw [nlen]; exact ur)
  have d5 := dn3.next f4 d4 mok4
  cases e4 : run1 c ns (ms0 c rs) i.us with
  | mk ms en =>
  rw [e4] at d5 hv
  cases en with
  | none =>
    have hv : v4 = .non := hv
    subst hv
    refine ⟨_, rfl, rfl, _, rfl, iteT ⟨_, rfl, by show 2 ≤ sizeLine; decide, fun t4 ht4 => ?_⟩⟩
    exact k2 ns ms t4 a _ (by unfold tr; rw [e]; dsimp only; rw [e2]; dsimp only; rw [hi]; dsimp only; rw [e4]) ((m1.trans m4).trans (Same.new ht4)) upd_same (d5.same (Same.new ht4)) (fun x hx => by
      cases q : H x with
      | none => rfl
      | some u => have := m1 _ _ q; rw [fr1' x hx] at this; cases this) ev
  | some d =>
    have hv : TD' H4 d v4 := hv
    refine ⟨_, rfl, rfl, _, rfl, iN (by cases hv <;> simp) ⟨_, rfl, k1 d v4 _ (by unfold tr; rw [e]; dsimp only; rw [e2]; dsimp only; rw [hi]; dsimp only; rw [e4]) (m1.trans m4) hv⟩⟩
def sp_next_pc (K : PySem.W.Frag) : Sp := sp2 fun x y H Q => ∃ a se ms c k n, x = .ref a.d ∧ Dn K H a se ms c k ∧ y = .int n ∧ Q (.int (match ms.goal with | none => (n + 1).fmod c.g.wd | some g => g)) H
theorem ok_next_pc (T : Tz P w K mg) : Cal P w K mg base 3 "next_pc" (sp_next_pc K) [] := by
  have c_Meaning_next : Met P w K mg base 2 (C_Meaning K) "next" (sp_Meaning_next K) [] := ok_Meaning_next T
  refine mk_next_pc T.toTx len2 fun f cdv A outer s H vs Q E hr h => ?_
  obtain ⟨_, _, rfl, a, se, ms, c, k, n, rfl, h, rfl, q⟩ := h
  have vw := h.view
  have ⟨vdx, mm, _, _, _, _, _, hv, hm, _⟩ := vw
  have ⟨mdx, _, _, _, _, hmi, _⟩ := hm
  have hi := h.dr.i
  refine ⟨_, (pss_one (ps_ret (pe_ifExp (pt_cmpR op_isN (pe_fld (pv 0) rfl) pe_non (nomark _)) (pe_mt c_Meaning_next hr (by first | decide | omega) (pe_fld (pe_fld (pv 0) rfl) rfl) (pa_cons (pv 1) pa_nil)) (pe_fld (pv 0) rfl)))), ?_⟩
  refine ⟨_, rfl, a.d, _, a.dx, _, _, rfl, hi, T.c_Draft, T.n_Draft_goal, rfl, ?_⟩
  cases e : ms.goal with
  | none =>
    rw [e] at hi q
    refine ⟨rfl, _, rfl, iteT ?_⟩
    exact ⟨_, rfl, a.d, _, a.dx, _, _, rfl, hi, T.c_Draft, T.n_Draft_view, rfl, a.v, _, vdx, _, _, rfl, hv, T.c_BoxView, T.n_BoxView_ground, rfl, mm, mdx, _, rfl, hmi, rfl, _, rfl, _, _, rfl, mm, c.g, n, rfl, hm, h.co.go, rfl, q⟩
  | some g =>
    rw [e] at hi q
    refine ⟨rfl, _, rfl, iteF ?_⟩
    exact ⟨_, rfl, a.d, _, a.dx, _, _, rfl, hi, T.c_Draft, T.n_Draft_goal, rfl, q⟩
end
end W73
set_option Elab.async false
set_option linter.all false
set_option maxRecDepth 100000
set_option maxHeartbeats 4000000
namespace W73
open PySem PySem.Spec PyProof.Rows L2
open C8 (Cal Met Mak pe_c pe_mk pe_mt pe_mt0 pe_gc pss_cut tCut)
section
variable {P : Program} {w : World} {K : PySem.W.Frag} {mg : Str → Option Value} {base : Heap}
/-! ### views of a box are made -/
def sp_View_init (K : PySem.W.Frag) : Sp := sp7 fun x a b c d e n H Q => ∃ y dx, x = .ref y ∧ H y = some (.ins (C_BoxView K) dx []) ∧ Q .non (upd H y (.ins (C_BoxView K) dx [("ground", a), ("frame_rows", b), ("special_words", c), ("out_rows", d), ("answer_rows", e), ("moment", n)]))
theorem upd_upd {H : Hp} {a : Addr} {o o' : HO} : upd (upd H a o) a o' = upd H a o' := by
  funext b
  by_cases z : b = a
  · rw [z, upd_same, upd_same]
  · rw [upd_ne z, upd_ne z, upd_ne z]
theorem okV (T : Tz P w K mg) {f2 : Addr} {fd2 : FuncData} (F : FunD K "__init__" "View.__init__" (defArgs s_View_init) (defBody s_View_init) (defScope s_View_init) [] [] f2 fd2) : FnR P w K mg base C8.CX0 1 f2 (sp_View_init K) := by
  have b : BD "__init__" "View.__init__" s_View_init ["self", "meaning", "frames", "specials", "outs", "answers", "count"] := fun _ _ _ _ _ _ us hl => match us, hl with | [_, _, _, _, _, _, _], _ => rfl
  have q : FnOk P w K mg base C8.CX0 1 f2 fd2 ["self", "meaning", "frames", "specials", "outs", "answers", "count"] (sp_View_init K) := F.ok sc_View_init len7 fun cdv A outer s H vs Q E hr h => by
    obtain ⟨_, _, _, _, _, _, _, rfl, y, dx, rfl, hy, k⟩ := h
    refine ⟨_, (pss_cons (ps_fld (pv 0) (pv 1) rfl)
    (pss_cons (ps_fld (pv 0) (pv 2) rfl)
    (pss_cons (ps_fld (pv 0) (pv 3) rfl)
    (pss_cons (ps_fld (pv 0) (pv 4) rfl)
    (pss_cons (ps_fld (pv 0) (pv 5) rfl)
    (pss_one (ps_fld (pv 0) (pv 6) rfl))))))), ?_⟩
    refine ⟨_, rfl, _, rfl, y, _, dx, _, rfl, hy, T.c_BoxView, T.n_BoxView_ground, by simp, ?_⟩
    refine ⟨_, rfl, _, rfl, y, _, dx, _, rfl, upd_same, T.c_BoxView, T.n_BoxView_frame_rows, by show 1 < 1000; decide, ?_⟩
    rw [upd_upd]
    refine ⟨_, rfl, _, rfl, y, _, dx, _, rfl, upd_same, T.c_BoxView, T.n_BoxView_special_words, by show 2 < 1000; decide, ?_⟩
    rw [upd_upd]
    refine ⟨_, rfl, _, rfl, y, _, dx, _, rfl, upd_same, T.c_BoxView, T.n_BoxView_out_rows, by show 3 < 1000; decide, ?_⟩
    rw [upd_upd]
    refine ⟨_, rfl, _, rfl, y, _, dx, _, rfl, upd_same, T.c_BoxView, T.n_BoxView_answer_rows, by show 4 < 1000; decide, ?_⟩
    rw [upd_upd]
    refine ⟨_, rfl, _, rfl, y, _, dx, _, rfl, upd_same, T.c_BoxView, T.n_BoxView_moment, by show 5 < 1000; decide, ?_⟩
    rw [upd_upd]
    exact k
  exact (q.raw (F.bindsN b) .nil).imp fun vs H Q E h => by rw [List.append_nil]; exact h
theorem ss_BoxView_init : SScope ["self", "meaning", "frames", "specials", "outs", "answers", "mapping", "pairs", "port", "word"] ["self", "meaning", "frames", "specials", "outs", "answers", "mapping"] (defScope s_BoxView_init) := ⟨rfl, rfl, rfl, by decide +kernel, rfl, by decide +kernel, by decide +kernel, by decide +kernel, by decide +kernel, by decide +kernel, by decide +kernel⟩
theorem pairApp {α β : Type} {R : α → β → Prop} {xs : List α} {ys : List β} {x : α} {y : β} (h : Paired R xs ys) (r : R x y) : Paired R (xs ++ [x]) (ys ++ [y]) := by
  induction h with
  | nil => exact .cons r .nil
  | cons r' t ih => exact .cons r' ih
theorem lock_asg {te : TE} {i : Nat} {D : Ends} {σ : L2.St} {H : Hp} (h : tLockE te σ H fun x H' => D.nx (σ.set i (some x)) H') : tLock (tAsg te (gName i)) D σ H := h
def sp_BoxView_init (K : PySem.W.Frag) : Sp := sp7 fun x a b c d e f H Q => ∃ S y dx m F s o q mp cv, (∀ x ∈ S, ∃ u, H x = some u ∧ ∀ xs, u ≠ .tup xs) ∧ y ∉ S ∧ x = .ref y ∧ H y = some (.ins (C_BoxView K) dx []) ∧ a = .ref m ∧ b = .ref F ∧ c = .ref s ∧ d = .ref o ∧ e = .ref q ∧ f = .ref mp ∧
  MeanAt K (Wo (y :: S) H) m cv.g ∧ FrAt (Wo (y :: S) H) F cv.fr ∧ Wo (y :: S) H s = some (.dK (spK cv.sw)) ∧ QsAt (Wo (y :: S) H) o cv.tty [] ∧ QsAt H q [] cv.keys ∧ MapAt (Wo (y :: S) H) mp cv.mp ∧ cv.ok ∧ ∀ H', Bt y H H' → ViewAt K (Wo S H') y cv → Q .non H'
theorem ok_BoxView_init (T : Tz P w K mg) : Mak P w K mg base 2 "BoxView" (C_BoxView K) (sp_BoxView_init K) [] := by
  obtain ⟨f, cc, f2, cda, fd, S, M, hm, fd2, F2⟩ := T.s_BoxView
  refine ⟨f, fd, ["self", "meaning", "frames", "specials", "outs", "answers", "mapping"], [], M, ?_, hm, ?_, .nil⟩
  · refine fnS S ss_BoxView_init len7 rfl rfl rfl (okV T F2) (fun _ => rfl) (fun _ => rfl) (fun _ => rfl) (fun _ => rfl) fun A outer s H vs Q E hr h => ?_
    obtain ⟨_, _, _, _, _, _, _, rfl, S0, y, dx, m, F, sp, o, q, mp, cv, hS, nyS, rfl, hy, rfl, rfl, rfl, rfl, rfl, rfl, hm, hF, hs, ho, hq, hmp, cok, k⟩ := h
    have hu := hu_of hr
    have hz := sizeL
    refine ⟨_, _, _, ps_lock (ps_setDq (i := 7)  (own := [("port", 8)]) (g := gName 8) (tt := tYes) (tk := tVar 8) (tv := tLc (iList K (tDGet (tVar 5) (tVar 8))) (gName 9) tYes (tTup (tCons (tC (.int 0)) (tCons (tVar 9) tNil))) [9]) false hu (by rfl) ss_BoxView_init.nd rfl rfl (swD_true rfl rfl rfl (by decide +kernel)) (pi_keys (pv 5)) (blkOk_by (N := ["self", "meaning", "frames", "specials", "outs", "answers", "mapping", "pairs", "port", "word"]) (sc := defScope s_BoxView_init) (by decide +kernel)) (fun _ _ _ _ _ => (pg_name (i := 8) ss_BoxView_init.nd rfl (Or.inl rfl))) (fun _ _ _ _ _ => pts_nil) (fun _ _ _ _ _ => (pv 8)) (fun _ _ _ _ _ => (pe_lc  (own := [("word", 9)]) (g := gName 9) (tt := tYes) rfl ss_BoxView_init.nd (pi_list (pe_dget hu (pv 5) (pv 8) (fun _ _ => rfl))) (blkOk_by (N := ["self", "meaning", "frames", "specials", "outs", "answers", "mapping", "pairs", "port", "word"]) (sc := { kind := .function, names := [(".0", .local), ("port", .local), ("answers", .cell)], isGenerator := false, isCoroutine := false }) (by decide +kernel)) (fun _ _ _ _ _ => (pg_name (i := 9) ss_BoxView_init.nd rfl (Or.inl rfl))) (fun _ _ _ _ _ => pts_nil) (fun _ _ _ _ _ => (pe_tup (pa_cons pe_int (pa_cons (pv 9) pa_nil))))))),
      (pa_cons (pv 1) (pa_cons (pv 2) (pa_cons (pv 3) (pa_cons (pv 4) (pa_cons (pv 7) (pa_cons pe_int pa_nil)))))), (pss_one (ps_fld (pv 0) (pv 6) rfl)), ?_⟩
    obtain ⟨qa, qb, hqd, hqa, hqb, nq⟩ := hq
    have hqd0 := hqd
    have hqa0 := hqa
    have hqb0 := hqb
    refine lock_asg (dq_lock (C := CP (two [] cv.keys)) CP.m CP.u CP.n (by show 8 < 10; decide) hqd0 (fun od R hR => ⟨_, rfl, hR⟩) (fun od s x H2 R hx hvx m hR => ?_) fun D l1 l2 H1 m1 eD c1 c2 nl nD n1 n2 => ?_)
    · obtain ⟨a', rfl, ha'⟩ : ∃ a', x = .ref a' ∧ H2 a' = some (.lst ((two [] cv.keys s).map V.int)) := by
        rcases hx with ⟨rfl, rfl⟩ | ⟨rfl, rfl⟩
        · exact ⟨_, rfl, m _ _ ((upd_ne (ne_kind hqa0 hqd0 (by simp))).trans hqa0)⟩
        · exact ⟨_, rfl, m _ _ ((upd_ne (ne_kind hqb0 hqd0 (by simp))).trans hqb0)⟩
      have hl : (two [] cv.keys s).length ≤ 1000 := by
        rcases hx with ⟨rfl, _⟩ | ⟨rfl, _⟩
        · rw [two_t]; exact Nat.zero_le _
        · rw [two_k]; exact cok.kl
      have hR' : ∀ l H4, H2 l = none → Same H2 H4 → (∃ ps : List Addr, H4 l = some (.lst (ps.map V.ref)) ∧ Paired (fun p (n : Int) => H4 p = some (.tup [.int 0, .int n])) ps (two [] cv.keys s)) → R (.ref l) H4 := hR
      clear hR
      generalize two [] cv.keys s = ns at ha' hR' hl
      refine ⟨_, rfl, _, rfl, q, .ref a', rfl, .inl ⟨_, Sum.inr s, .inr ⟨od, m _ _ upd_same⟩, rfl, hvx.symm⟩, a', rfl, ⟨_, .inl (.inl ha')⟩, fun D hD => ?_⟩
      refine lc_it (walk_list (xs := ns.map V.int)) (fun i H3 => Same H2 H3 ∧ ∃ ps : List Addr, H3 D = some (.lst (ps.map V.ref)) ∧ Paired (fun p (n : Int) => H3 p = some (.tup [.int 0, .int n])) ps (ns.take i)) ⟨Same.new hD, [], upd_same, .nil⟩ (fun i H3 _ h => .inl (.inl (h.1 _ _ ha'))) (fun i z H3 H3' hi ⟨m3, ps, eD, hp⟩ y => ?_) fun H3 ⟨m3, ps, eD, hp⟩ => hR' D H3 hD m3 ⟨ps, eD, by rw [List.length_map, List.take_length] at hp; exact hp⟩
      obtain ⟨rfl, hy⟩ := y
      rw [List.getElem?_map] at hy
      obtain ⟨n, hn, rfl⟩ := Option.map_eq_some_iff.mp hy
      rw [List.length_map] at hi
      have lp : ps.length = i := by rw [Paired.length hp, List.length_take]; omega
      refine ⟨rfl, yesI ⟨_, rfl, by show 2 ≤ sizeLine; decide, fun t ht => ?_⟩⟩
      have m4 := Same.new (o := .tup [.int 0, .int n]) ht
      refine ⟨_, m4 _ _ eD, by simp; omega, Same.mut (m3.trans m4) hD, ps ++ [t], ?_, ?_⟩
      · rw [upd_same]
        simp
      · rw [List.take_succ, hn]
        have up : ∀ p n', H3' p = some (.tup [.int 0, .int n']) → (upd (upd H3' t (.tup [.int 0, .int n])) D (.lst (ps.map V.ref ++ [V.ref t]))) p = some (.tup [.int 0, .int n']) := fun p n' e => (upd_ne (fun z => by rw [z, eD] at e; cases e)).trans (m4 _ _ e)
        exact pairApp (L2.Paired.mapP hp fun p n' e => up p n' e) ((upd_ne (fun z => by rw [z, eD] at ht; cases ht)).trans upd_same)
    have e1 := m1 _ _ hy
    have nDy : D ≠ y := fun z => by rw [z, hy] at nD; cases nD
    have n1y : l1 ≠ y := fun z => by rw [z, hy] at n1; cases n1
    have n2y : l2 ≠ y := fun z => by rw [z, hy] at n2; cases n2
    refine ⟨y, dx, [], rfl, e1, fun q0 hq0 => ?_⟩
    have m2 := Same.new (o := .met f2 y) hq0
    have eq0 : (upd H1 q0 (.met f2 y)) q0 = some (.met f2 y) := upd_same
    generalize upd H1 q0 (.met f2 y) = H2 at m2 eq0 ⊢
    refine ⟨_, rfl, _, rfl, _, rfl, _, rfl, _, rfl, eq0, ?_⟩
    refine ⟨_, _, _, _, _, _, _, rfl, y, dx, rfl, m2 _ _ e1, ?_⟩
    refine ⟨_, rfl, _, rfl, y, _, dx, _, rfl, upd_same, T.c_BoxView, T.n_BoxView_mapping, by show 6 < 1000; decide, ?_⟩
    rw [upd_upd]
    generalize hH3 : upd H2 y _ = H3
    have e3 : H3 y = some (.ins (C_BoxView K) dx [("ground", .ref m), ("frame_rows", .ref F), ("special_words", .ref sp), ("out_rows", .ref o), ("answer_rows", .ref D), ("moment", .int 0), ("mapping", .ref mp)]) := by rw [← hH3]; exact upd_same
    have W3 : ∀ {b u}, b ≠ y → H2 b = some u → H3 b = some u := fun {b u} n e => by rw [← hH3]; exact (upd_ne n).trans e
    have b3 : Bt y H H3 := (Bt.of (m1.trans m2)).trans (hH3 ▸ .put)
    clear hH3
    have W : Same (Wo (y :: S0) H) (Wo S0 H3) := fun b u e => by
      have nb : b ∉ y :: S0 := fun z => by simp only [Wo, z, if_true] at e; cases e
      exact Wo.at (W3 (fun z => nb (z ▸ List.mem_cons_self ..)) (m2 _ _ (m1 _ _ (Wo.to _ _ e)))) fun z => nb (List.mem_cons_of_mem _ z)
    have fr : ∀ {b}, H b = none → b ∉ S0 := fun {b} e z => by obtain ⟨u, eu, _⟩ := hS b z; rw [e] at eu; cases eu
    have e2 := m2 _ _ e1
    obtain ⟨ps1, p1, p1'⟩ := c1
    cases p1'
    obtain ⟨ps2, p2, p2'⟩ := c2
    rw [two_k] at p2'
    refine k _ b3 ⟨dx, m, F, sp, o, D, mp, Wo.at e3 nyS, hm.same W, hF.same W, W _ _ hs, ho.same W, ⟨l1, l2, ps2, Wo.at (W3 nDy (m2 _ _ eD)) (fr nD), Wo.at (W3 n1y (m2 _ _ p1)) (fr n1), Wo.at (W3 n2y (m2 _ _ p2)) (fr n2), L2.Paired.mapP p2' fun p n' e => Wo.at (W3 (fun z => by rw [z, e1] at e; cases e) (m2 _ _ e)) (fun z => by
      obtain ⟨u, eu, hu⟩ := hS p z
      rw [m1 _ _ eu] at e
      exact hu _ (Option.some.inj e)), nl⟩, hmp.same W⟩
  · obtain ⟨oc, od, doc, pm, ct, an, osl, rfl, lk⟩ := S.ex
    exact .all fun us hl => match us, hl with | [_, _, _, _, _, _, _], _ => rfl
end
end W73
set_option Elab.async false
set_option linter.all false
set_option maxRecDepth 100000
set_option maxHeartbeats 4000000
namespace W73
open PySem PySem.Spec PyProof.Rows L2
open C8 (Cal Met Mak pe_c pe_mk pe_mt pe_mt0 pe_gc pss_cut tCut)
section
variable {P : Program} {w : World} {K : PySem.W.Frag} {mg : Str → Option Value} {base : Heap}
/-! ### boxes -/
structure Bx where
  fr : List (List Int)
  sw : Str → Int
  keys : List Int
  tty : List Int
def BoxAt (K : PySem.W.Frag) (H : Hp) (b q m : Addr) (x : Bx) : Prop := ∃ dx F s o, H b = some (.ins (C_Box K) dx [("ground", .ref m), ("frame_rows", .ref F), ("special_words", .ref s), ("answer_rows", .ref q), ("out_rows", .ref o)]) ∧
  FrAt (Wo [b, q] H) F x.fr ∧ Wo [b, q] H s = some (.dK (spK x.sw)) ∧ QsAt (Wo [b, q] H) o x.tty [] ∧ QsAt H q [] x.keys
theorem BoxAt.same {H H' : Hp} {b q m : Addr} {x : Bx} (s : Same H H') : BoxAt K H b q m x → BoxAt K H' b q m x := fun ⟨dx, F, sp, o, h, h1, h2, h3, h4⟩ =>
  ⟨dx, F, sp, o, s _ _ h, h1.same (Wo.mono s), Wo.mono s _ _ h2, h3.same (Wo.mono s), h4.same s⟩
/-- what is new since H0 -/
def Nw (H0 H : Hp) : Hp := fun b => if (H0 b).isSome then none else H b
theorem Nw.to {H0 H : Hp} : Same (Nw H0 H) H := fun b u e => by
  unfold Nw at e
  split at e
  · cases e
  · exact e
theorem Nw.at {H0 H : Hp} {b : Addr} {u : HO} (n : H0 b = none) (e : H b = some u) : Nw H0 H b = some u := by
  unfold Nw
  rw [n]
  exact e
theorem Nw.fresh {H0 H : Hp} {b : Addr} {u : HO} (e : Nw H0 H b = some u) : H0 b = none := by
  unfold Nw at e
  split at e
  · cases e
  · rename_i h
    simpa using h
theorem Nw.mono {H0 H H' : Hp} (m : Same H H') : Same (Nw H0 H) (Nw H0 H') := fun b u e => Nw.at (Nw.fresh e) (m _ _ (Nw.to _ _ e))
theorem Nw.bas {H0 H1 H : Hp} (m : Same H0 H1) : Same (Nw H1 H) (Nw H0 H) := fun b u e => Nw.at (by
  cases q : H0 b with
  | none => rfl
  | some o => have := m _ _ q; rw [Nw.fresh e] at this; cases this) (Nw.to _ _ e)
theorem pairMem {α β : Type} {R S : α → β → Prop} {xs : List α} {ys : List β} (h : ∀ a ∈ xs, ∀ r, R a r → S a r) (p : Paired R xs ys) : Paired S xs ys := by
  induction p with
  | nil => exact .nil
  | cons r t ih => exact .cons (h _ (List.mem_cons_self ..) _ r) (ih fun a ha => h a (List.mem_cons_of_mem _ ha))
def sp_Box_init (K : PySem.W.Frag) : Sp := sp5 fun x a b c d H Q => ∃ y dx m g F fr s f q ks, x = .ref y ∧ H y = some (.ins (C_Box K) dx []) ∧ a = .ref m ∧ MeanAt K (Wo [y] H) m g ∧ g.ok ∧ b = .ref F ∧ FrAt H F fr ∧ OkFr g fr ∧ c = .ref s ∧ H s = some (.dK (spK f)) ∧ (∀ x ∈ kSPECS, inW g (f x)) ∧ f "mode" = 0 ∧
  d = .ref q ∧ QsAt H q [] ks ∧ (∀ n ∈ ks, inW g n) ∧ ks.length ≤ 1000 ∧ ∀ H' q', Bt y H H' → BoxAt K (Nw (Wo [y] H) H') y q' m ⟨fr, f, ks, []⟩ → Q .non H'
theorem ok_Box_init (T : Tz P w K mg) : Mak P w K mg base 6 "Box" (C_Box K) (sp_Box_init K) [] := by
  have c_are_frames : Cal P w K mg base 5 "are_frames" (sp_are_frames K) [] := ok_are_frames T
  have c_are_specials : Cal P w K mg base 4 "are_specials" (sp_are_specials K) [] := ok_are_specials T
  have c_are_outs : Cal P w K mg base 5 "are_outs" (sp_are_outs K) [] := ok_are_outs T
  refine mk_Box_init T.toTx len5 fun f cdv A outer s H vs Q E hr h => ?_
  obtain ⟨_, _, _, _, _, rfl, y, dx, m, g, F, fr, sp, f, q, ks, rfl, hy, rfl, hm, gok, rfl, hF, okF, rfl, hs, hf, hmode, rfl, hq, hk, lk, k⟩ := h
  have hu := hu_of hr
  have hz := sizeL
  refine ⟨_, (pss_cons (ps_if (pt_not (pt_val (pe_c c_are_frames hr (by first | decide | omega) rfl (pa_cons (pv 1) (pa_cons (pv 2) pa_nil))))) pss_never pss_nil)
    (pss_cons (ps_if (PW.pt (pw_or (pt_not (pt_val (pe_c c_are_specials hr (by first | decide | omega) rfl (pa_cons (pv 1) (pa_cons (pv 3) pa_nil))))) (pw_or1 (pt_cmpR op_ne (pe_dget hu (pv 3) pe_str (fun _ _ => rfl)) pe_int (nomark _))))) pss_never pss_nil)
    (pss_cons (ps_if (pt_not (pt_val (pe_c c_are_outs hr (by first | decide | omega) rfl (pa_cons (pv 1) (pa_cons (pv 4) pa_nil))))) pss_never pss_nil)
    (pss_cons (ps_fld (pv 0) (pv 1) rfl)
    (pss_cons (ps_fld (pv 0) (pe_lc  (own := [("frame", 5)]) (g := gName 5) (tt := tYes) rfl sc_Box_init.nd (pi_list (pv 2)) (blkOk_by (N := ["self", "meaning", "frames", "specials", "answers", "frame", "port"]) (sc := defScope s_Box_init) (by decide +kernel)) (fun _ _ _ _ _ => (pg_name (i := 5) sc_Box_init.nd rfl (Or.inl rfl))) (fun _ _ _ _ _ => pts_nil) (fun _ _ _ _ _ => (pe_callTy call_listH (by rfl) T.b_list boot_list (pa_cons (pv 5) pa_nil)))) rfl)
    (pss_cons (ps_fld (pv 0) (pe_callTy call_dictD (by rfl) T.b_dict boot_dict (pa_cons (pv 3) pa_nil)) rfl)
    (pss_cons (ps_fld (pv 0) (pe_lock (pe_dq (tk := tVar 6) (tv := tCB rListH (tCons (tDGet (tVar 4) (tVar 6)) tNil)) (own := [("port", 6)]) (g := gName 6) (tt := tYes) false hu rfl sc_Box_init.nd (pi_keys (pv 4)) (blkOk_by (N := ["self", "meaning", "frames", "specials", "answers", "frame", "port"]) (sc := defScope s_Box_init) (by decide +kernel)) (fun _ _ _ _ _ => (pg_name (i := 6) sc_Box_init.nd rfl (Or.inl rfl))) (fun _ _ _ _ _ => pts_nil) (fun _ _ _ _ _ => (pv 6)) (fun _ _ _ _ _ => (pe_callTy call_listH (by rfl) T.b_list boot_list (pa_cons (pe_dget hu (pv 4) (pv 6) (fun _ _ => rfl)) pa_nil))))) rfl)
    (pss_one (ps_fld (pv 0) (pe_lock (pe_dq  (own := [("port", 6)]) (g := gName 6) (tt := tYes) false hu rfl sc_Box_init.nd (pi_keys (pv 4)) (blkOk_by (N := ["self", "meaning", "frames", "specials", "answers", "frame", "port"]) (sc := defScope s_Box_init) (by decide +kernel)) (fun _ _ _ _ _ => (pg_name (i := 6) sc_Box_init.nd rfl (Or.inl rfl))) (fun _ _ _ _ _ => pts_nil) (fun _ _ _ _ _ => (pv 6)) (fun _ _ _ _ _ => (pe_lst pa_nil)))) rfl))))))))), ?_⟩
  refine ⟨_, rfl, _, rfl, _, _, rfl, m, g, F, fr, rfl, hm.same Wo.to, gok, rfl, hF, okF, fun H1 m1 => ⟨_, rfl, iteF ?_⟩⟩
  refine ⟨_, rfl, _, rfl, _, _, rfl, m, g, sp, f, rfl, (hm.same Wo.to).same m1, gok, rfl, m1 _ _ hs, hf, fun H2 m2' => ⟨_, rfl, iteF ?_⟩⟩
  have m2 := m1.trans m2'
  refine ⟨_, rfl, sp, .int (f "mode"), rfl, .inl ⟨_, Sum.inr "mode", .inl (m2 _ _ hs), rfl, (spK_at (by decide)).symm⟩, rfl, _, rfl, iN (by rw [hmode]; rfl) ?_⟩
  refine ⟨_, rfl, _, rfl, _, _, rfl, m, g, q, [], ks, rfl, (hm.same Wo.to).same m2, gok, rfl, hq.same m2, by simp, hk, by simp, lk, fun H3 m3' => ⟨_, rfl, iteF ?_⟩⟩
  have m3 := m2.trans m3'
  have e3 := m3 _ _ hy
  refine ⟨_, rfl, _, rfl, y, _, dx, _, rfl, e3, T.c_Box, T.n_Box_ground, by simp, ?_⟩
  generalize hH : upd H3 y _ = H4
  have c4 : Bt y H3 H4 := hH ▸ .put
  have b4 : Bt y H H4 := (Bt.of m3).trans c4
  have e4 : H4 y = some (.ins (C_Box K) dx [("ground", .ref m)]) := by rw [← hH]; exact upd_same
  clear hH
  have hn0 : ∀ {Hn : Hp} {b : Addr}, Bt y H Hn → Hn b = none → b ≠ y → H b = none := fun {Hn b} m e n => by
    cases q : H b with
    | none => rfl
    | some u => rw [m b u n q] at e; cases e
  obtain ⟨as, hF1, hF2⟩ := hF
  have nF : F ≠ y := fun z => by rw [z, hy] at hF1; cases hF1
  have hF4 := b4 _ _ nF hF1
  have frl := okF.2.1
  have ll := Paired.length hF2
  have hF24 : Paired (fun a (row : List Int) => H4 a = some (.lst (row.map V.int))) as fr := L2.Paired.mapP hF2 fun a _ e => b4 _ _ (fun z => by rw [z, hy] at e; cases e) e
  refine ⟨_, rfl, F, rfl, ⟨_, .inl (.inl hF4)⟩, fun D hD => ?_⟩
  refine lc_copy (walk_list (xs := as.map V.ref)) (by omega) hD (fun _ m => .inl (.inl (m _ _ hF4))) hF24 (fun a row H2 R ha hR => ?_) fun H5 ds m5 hD5 pd nd fr5 => ?_
  · exact ⟨rfl, _, rfl, a, _, rfl, .inl ha, hR⟩
  have nD : D ≠ y := fun z => by rw [z, e4] at hD; cases hD
  have zD := hn0 b4 hD nD
  refine ⟨_, rfl, y, _, dx, _, rfl, m5 _ _ e4, T.c_Box, T.n_Box_frame_rows, by simp, ?_⟩
  generalize hH : upd H5 y _ = H6
  have c6 : Bt y H5 H6 := hH ▸ .put
  have b6 : Bt y H H6 := (b4.trans (.of m5)).trans c6
  have e6 : H6 y = some (.ins (C_Box K) dx [("ground", .ref m), ("frame_rows", .ref D)]) := by rw [← hH]; exact upd_same
  clear hH
  have ns : sp ≠ y := fun z => by rw [z, hy] at hs; cases hs
  refine ⟨_, rfl, sp, _, rfl, .inl (b6 _ _ ns hs), fun l7 hl7 => ?_⟩
  have m7 := Same.new (o := .dK (spK f)) hl7
  have el7 : (upd H6 l7 (.dK (spK f))) l7 = some (.dK (spK f)) := upd_same
  generalize upd H6 l7 (.dK (spK f)) = H7 at m7 el7 ⊢
  have n7 : l7 ≠ y := fun z => by rw [z, e6] at hl7; cases hl7
  have z7 := hn0 b6 hl7 n7
  refine ⟨_, rfl, y, _, dx, _, rfl, m7 _ _ e6, T.c_Box, T.n_Box_special_words, by simp, ?_⟩
  generalize hH : upd H7 y _ = H8
  have c8 : Bt y H7 H8 := hH ▸ .put
  have b8 : Bt y H H8 := (b6.trans (.of m7)).trans c8
  have e8 : H8 y = some (.ins (C_Box K) dx [("ground", .ref m), ("frame_rows", .ref D), ("special_words", .ref l7)]) := by rw [← hH]; exact upd_same
  clear hH
  obtain ⟨qa, qb, hqd, hqa, hqb, nq⟩ := hq
  have nqd : q ≠ y := fun z => by rw [z, hy] at hqd; cases hqd
  have nqa : qa ≠ y := fun z => by rw [z, hy] at hqa; cases hqa
  have nqb : qb ≠ y := fun z => by rw [z, hy] at hqb; cases hqb
  have eq8 := b8 _ _ nqd hqd
  have ea8 := b8 _ _ nqa hqa
  have eb8 := b8 _ _ nqb hqb
  try unfold tSeq
  dsimp only
  try unfold sFld
  show tLockE _ _ _ _
  refine dq_lock (C := CL (two [] ks)) CL.m CL.u CL.n ?_ eq8 (fun od R hR => ⟨_, rfl, hR⟩) (fun od s x H2 R hx hvx m hR => ?_) fun D1 la lb H9 m9 eD1 ca cb nab2 zD1 za zb => ?_
  · show 6 < 7; decide
  · obtain ⟨a', rfl, ha'⟩ : ∃ a', x = .ref a' ∧ H2 a' = some (.lst ((two [] ks s).map V.int)) := by
      rcases hx with ⟨rfl, rfl⟩ | ⟨rfl, rfl⟩
      · exact ⟨_, rfl, m _ _ ((upd_ne (ne_kind ea8 eq8 (by simp))).trans ea8)⟩
      · exact ⟨_, rfl, m _ _ ((upd_ne (ne_kind eb8 eq8 (by simp))).trans eb8)⟩
    exact ⟨_, rfl, _, rfl, q, .ref a', rfl, .inl ⟨_, Sum.inr s, .inr ⟨od, m _ _ upd_same⟩, rfl, hvx.symm⟩, a', _, rfl, .inl ha', fun l hl => hR l _ hl (Same.new hl) upd_same⟩
  have nD1 : D1 ≠ y := fun z => by rw [z, e8] at zD1; cases zD1
  have na : la ≠ y := fun z => by rw [z, e8] at za; cases za
  have nb : lb ≠ y := fun z => by rw [z, e8] at zb; cases zb
  have y1 := hn0 b8 zD1 nD1
  have ya := hn0 b8 za na
  have yb := hn0 b8 zb nb
  refine ⟨_, rfl, y, _, dx, _, rfl, m9 _ _ e8, T.c_Box, T.n_Box_answer_rows, by simp, ?_⟩
  generalize hH : upd H9 y _ = H10
  have c10 : Bt y H9 H10 := hH ▸ .put
  have b10 : Bt y H H10 := (b8.trans (.of m9)).trans c10
  have e10 : H10 y = some (.ins (C_Box K) dx [("ground", .ref m), ("frame_rows", .ref D), ("special_words", .ref l7), ("answer_rows", .ref D1)]) := by rw [← hH]; exact upd_same
  clear hH
  have eq10 := b10 _ _ nqd hqd
  try unfold tSeq
  try dsimp only
  try unfold sFld
  show tLockE _ _ _ _
  refine dq_lock (C := CL (two [] [])) CL.m CL.u CL.n ?_ eq10 (fun od R hR => ⟨_, rfl, hR⟩) (fun od s x H2 R hx hvx m hR => ?_) fun D2 lc ld H11 m11 eD2 cc cd ncd2 zD2 zc zd => ?_
  · show 6 < 7; decide
  · refine ⟨by show 0 ≤ sizeLine; decide, fun l hl => hR l _ hl (Same.new hl) ?_⟩
    unfold CL
    rw [show two [] [] s = [] by unfold two; split <;> rfl]
    exact upd_same
  have nD2 : D2 ≠ y := fun z => by rw [z, e10] at zD2; cases zD2
  have nc : lc ≠ y := fun z => by rw [z, e10] at zc; cases zc
  have nd' : ld ≠ y := fun z => by rw [z, e10] at zd; cases zd
  have y2 := hn0 b10 zD2 nD2
  have yc := hn0 b10 zc nc
  have yd := hn0 b10 zd nd'
  refine ⟨_, rfl, y, _, dx, _, rfl, m11 _ _ e10, T.c_Box, T.n_Box_out_rows, by simp, ?_⟩
  generalize hH : upd H11 y _ = H12
  have c12 : Bt y H11 H12 := hH ▸ .put
  have b12 : Bt y H H12 := (b10.trans (.of m11)).trans c12
  have e12 : H12 y = some (.ins (C_Box K) dx [("ground", .ref m), ("frame_rows", .ref D), ("special_words", .ref l7), ("answer_rows", .ref D1), ("out_rows", .ref D2)]) := by rw [← hH]; exact upd_same
  clear hH
  have g9 : Bt y H9 H12 := (c10.trans (.of m11)).trans c12
  have g7 : Bt y H7 H12 := (c8.trans (.of m9)).trans g9
  have g5 : Bt y H5 H12 := (c6.trans (.of m7)).trans g7
  have at0 : ∀ {b u}, b ≠ y → H b = none → H12 b = some u → Nw (Wo [y] H) H12 b = some u := fun {b u} n e z => Nw.at (Wo.new e) z
  have eD1' := g9 _ _ nD1 eD1
  have nn : ∀ {b u}, b ≠ y → H b = none → H12 b = some u → (∀ kv, u ≠ .dK kv) → Wo [y, D1] (Nw (Wo [y] H) H12) b = some u := fun {b u} n e z nk => Wo.at (at0 n e z) (by
    simp only [List.mem_cons, List.not_mem_nil, or_false, not_or]
    exact ⟨n, fun z' => by rw [z', eD1'] at z; cases z; exact nk _ rfl⟩)
  have nD12 : ∀ {b u}, b ≠ y → H b = none → H12 b = some u → b ≠ D1 → Wo [y, D1] (Nw (Wo [y] H) H12) b = some u := fun {b u} n e z nk => Wo.at (at0 n e z) (by
    simp only [List.mem_cons, List.not_mem_nil, or_false, not_or]
    exact ⟨n, nk⟩)
  rw [CL, two_t] at ca
  rw [CL, two_k] at cb
  rw [CL, two_t] at cc
  rw [CL, two_k] at cd
  refine k H12 D1 b12 ⟨dx, D, l7, D2, Nw.at (by simp [Wo]) e12, ⟨ds, nn nD zD (g5 _ _ nD hD5) (by simp), pairMem (fun a ha r e => ?_) pd⟩, nD12 n7 z7 (g7 _ _ n7 el7) (fun z => ?_), ⟨lc, ld, nD12 nD2 y2 (c12 _ _ nD2 eD2) (fun z => ?_), nn nc yc (c12 _ _ nc cc) (by simp), nn nd' yd (c12 _ _ nd' cd) (by simp), ncd2⟩, ⟨la, lb, at0 nD1 y1 eD1', at0 na ya (g9 _ _ na ca), at0 nb yb (g9 _ _ nb cb), nab2⟩⟩
  · have nay : a ≠ y := fun z => by have := (fr5 a ha).1; rw [z, e4] at this; cases this
    exact nn nay (hn0 b4 (fr5 a ha).1 nay) (g5 _ _ nay e) (by simp)
  · have := c8 _ _ n7 el7
    rw [z, zD1] at this
    cases this
  · have := c10 _ _ nD1 eD1
    rw [← z, zD2] at this
    cases this
end
end W73
set_option Elab.async false
set_option linter.all false
set_option maxRecDepth 100000
set_option maxHeartbeats 4000000
namespace W73
open PySem PySem.Spec PyProof.Rows L2
open C8 (Cal Met Mak pe_c pe_mk pe_mt pe_mt0 pe_gc pss_cut tCut)
section
variable {P : Program} {w : World} {K : PySem.W.Frag} {mg : Str → Option Value} {base : Heap}
def sp_Box_frames (K : PySem.W.Frag) : Sp := sp1 fun x H Q => ∃ b q m bx, x = .ref b ∧ BoxAt K H b q m bx ∧ bx.fr.length ≤ 1000 ∧ ∀ F H', Same H H' → FrAt (Nw H H') F bx.fr → Q (.ref F) H'
theorem ok_Box_frames (T : Tz P w K mg) : Met P w K mg base 1 (C_Box K) "frames" (sp_Box_frames K) [] := by
  refine mk_Box_frames T.toTx len1 fun f cdv A outer s H vs Q E hr h => ?_
  obtain ⟨_, rfl, b, q, m, bx, rfl, ⟨dx, F, sp, o, hb, ⟨as, hF', hp'⟩, hs, ho, hq⟩, hl, k⟩ := h
  have hz := sizeL
  have hF := Wo.to _ _ hF'
  have hp := L2.Paired.mapP hp' fun _ _ e => Wo.to _ _ e
  have ll := Paired.length hp
  refine ⟨_, (pss_one (ps_ret (pe_lc  (own := [("frame", 1)]) (g := gName 1) (tt := tYes) rfl sc_Box_frames.nd (pi_list (pe_fld (pv 0) rfl)) (blkOk_by (N := ["self", "frame"]) (sc := defScope s_Box_frames) (by decide +kernel)) (fun _ _ _ _ _ => (pg_name (i := 1) sc_Box_frames.nd rfl (Or.inl rfl))) (fun _ _ _ _ _ => pts_nil) (fun _ _ _ _ _ => (pe_callTy call_listH (by rfl) T.b_list boot_list (pa_cons (pv 1) pa_nil)))))), ?_⟩
  refine ⟨_, rfl, b, _, dx, _, _, rfl, hb, T.c_Box, T.n_Box_frame_rows, rfl, F, rfl, ⟨_, .inl (.inl hF)⟩, fun D hD => ?_⟩
  refine lc_copy (walk_list (xs := as.map V.ref)) (by omega) hD (fun _ m => .inl (.inl (m _ _ hF))) hp (fun a row H2 R ha hR => ?_) fun H5 ds m5 hD5 pd nd fr5 => ?_
  · exact ⟨rfl, _, rfl, a, _, rfl, .inl ha, hR⟩
  · exact k D H5 m5 ⟨ds, Nw.at hD hD5, pairMem (fun a ha r e => Nw.at (fr5 a ha).1 e) pd⟩
def sp_Box_specials (K : PySem.W.Frag) : Sp := sp1 fun x H Q => ∃ b q m bx, x = .ref b ∧ BoxAt K H b q m bx ∧ ∀ s H', Same H H' → Nw H H' s = some (.dK (spK bx.sw)) → Q (.ref s) H'
theorem ok_Box_specials (T : Tz P w K mg) : Met P w K mg base 1 (C_Box K) "specials" (sp_Box_specials K) [] := by
  refine mk_Box_specials T.toTx len1 fun f cdv A outer s H vs Q E hr h => ?_
  obtain ⟨_, rfl, b, q, m, bx, rfl, ⟨dx, F, sp, o, hb, hF, hs, ho, hq⟩, k⟩ := h
  refine ⟨_, (pss_one (ps_ret (pe_callTy call_dictD (by rfl) T.b_dict boot_dict (pa_cons (pe_fld (pv 0) rfl) pa_nil)))), ?_⟩
  exact ⟨_, rfl, b, _, dx, _, _, rfl, hb, T.c_Box, T.n_Box_special_words, rfl, sp, _, rfl, .inl (Wo.to _ _ hs), fun l hl => k l _ (Same.new hl) (Nw.at hl upd_same)⟩
def sp_Box_answers (K : PySem.W.Frag) : Sp := sp1 fun x H Q => ∃ b q m bx, x = .ref b ∧ BoxAt K H b q m bx ∧ ∀ a H', Same H H' → QsAt (Nw H H') a [] bx.keys → Q (.ref a) H'
theorem ok_Box_answers (T : Tz P w K mg) : Met P w K mg base 1 (C_Box K) "answers" (sp_Box_answers K) [] := by
  refine mk_Box_answers T.toTx len1 fun f cdv A outer s H vs Q E hr h => ?_
  obtain ⟨_, rfl, b, q, m, bx, rfl, ⟨dx, F, sp, o, hb, hF, hs, ho, ⟨qa, qb, hqd, hqa, hqb, nq⟩⟩, k⟩ := h
  have hu := hu_of hr
  refine ⟨_, (pss_one (ps_ret (pe_lock (pe_dq (tk := tVar 1) (tv := tCB rListH (tCons (tDGet (tFld K (tVar 0) "answer_rows") (tVar 1)) tNil)) (own := [("port", 1)]) (g := gName 1) (tt := tYes) false hu rfl sc_Box_answers.nd (pi_keys (pe_fld (pv 0) rfl)) (blkOk_by (N := ["self", "port"]) (sc := defScope s_Box_answers) (by decide +kernel)) (fun _ _ _ _ _ => (pg_name (i := 1) sc_Box_answers.nd rfl (Or.inl rfl))) (fun _ _ _ _ _ => pts_nil) (fun _ _ _ _ _ => (pv 1)) (fun _ _ _ _ _ => (pe_callTy call_listH (by rfl) T.b_list boot_list (pa_cons (pe_dget hu (pe_fld (pv 0) rfl) (pv 1) (fun _ _ => rfl)) pa_nil))))))), ?_⟩
  try unfold tSeq
  try dsimp only
  try unfold tRet
  show tLockE _ _ _ _
  refine dq_lock (C := CL (two [] bx.keys)) CL.m CL.u CL.n ?_ hqd (fun od R hR => ⟨_, rfl, b, _, dx, _, _, rfl, (upd_ne (ne_kind hb hqd (by simp))).trans hb, T.c_Box, T.n_Box_answer_rows, rfl, hR⟩) (fun od s x H2 R hx hvx m hR => ?_) fun D1 la lb H9 m9 eD1 ca cb nab2 zD1 za zb => k D1 H9 m9 ⟨la, lb, Nw.at zD1 eD1, Nw.at za (by rw [CL, two_t] at ca; exact ca), Nw.at zb (by rw [CL, two_k] at cb; exact cb), nab2⟩
  · show 1 < 2; decide
  · have hb2 := m _ _ ((upd_ne (ne_kind hb hqd (by simp))).trans hb)
    obtain ⟨a', rfl, ha'⟩ : ∃ a', x = .ref a' ∧ H2 a' = some (.lst ((two [] bx.keys s).map V.int)) := by
      rcases hx with ⟨rfl, rfl⟩ | ⟨rfl, rfl⟩
      · exact ⟨_, rfl, m _ _ ((upd_ne (ne_kind hqa hqd (by simp))).trans hqa)⟩
      · exact ⟨_, rfl, m _ _ ((upd_ne (ne_kind hqb hqd (by simp))).trans hqb)⟩
    exact ⟨_, rfl, b, _, dx, _, _, rfl, hb2, T.c_Box, T.n_Box_answer_rows, rfl, _, rfl, q, .ref a', rfl, .inl ⟨_, Sum.inr s, .inr ⟨od, m _ _ upd_same⟩, rfl, hvx.symm⟩, a', _, rfl, .inl ha', fun l hl => hR l _ hl (Same.new hl) upd_same⟩
def sp_Box_outs (K : PySem.W.Frag) : Sp := sp1 fun x H Q => ∃ b q m bx, x = .ref b ∧ BoxAt K H b q m bx ∧ ∀ a H', Same H H' → QsAt (Nw H H') a bx.tty [] → Q (.ref a) H'
theorem ok_Box_outs (T : Tz P w K mg) : Met P w K mg base 1 (C_Box K) "outs" (sp_Box_outs K) [] := by
  refine mk_Box_outs T.toTx len1 fun f cdv A outer s H vs Q E hr h => ?_
  obtain ⟨_, rfl, b, q, m, bx, rfl, ⟨dx, F, sp, o, hb, hF, hs, ⟨qa, qb, hqd', hqa', hqb', nq⟩, hq⟩, k⟩ := h
  have hu := hu_of hr
  have hqd := Wo.to _ _ hqd'
  have hqa := Wo.to _ _ hqa'
  have hqb := Wo.to _ _ hqb'
  refine ⟨_, (pss_one (ps_ret (pe_lock (pe_dq (tk := tVar 1) (tv := tCB rListH (tCons (tDGet (tFld K (tVar 0) "out_rows") (tVar 1)) tNil)) (own := [("port", 1)]) (g := gName 1) (tt := tYes) false hu rfl sc_Box_outs.nd (pi_keys (pe_fld (pv 0) rfl)) (blkOk_by (N := ["self", "port"]) (sc := defScope s_Box_outs) (by decide +kernel)) (fun _ _ _ _ _ => (pg_name (i := 1) sc_Box_outs.nd rfl (Or.inl rfl))) (fun _ _ _ _ _ => pts_nil) (fun _ _ _ _ _ => (pv 1)) (fun _ _ _ _ _ => (pe_callTy call_listH (by rfl) T.b_list boot_list (pa_cons (pe_dget hu (pe_fld (pv 0) rfl) (pv 1) (fun _ _ => rfl)) pa_nil))))))), ?_⟩
  try unfold tSeq
  try dsimp only
  try unfold tRet
  show tLockE _ _ _ _
  refine dq_lock (C := CL (two bx.tty [])) CL.m CL.u CL.n ?_ hqd (fun od R hR => ⟨_, rfl, b, _, dx, _, _, rfl, (upd_ne (ne_kind hb hqd (by simp))).trans hb, T.c_Box, T.n_Box_out_rows, rfl, hR⟩) (fun od s x H2 R hx hvx m hR => ?_) fun D1 la lb H9 m9 eD1 ca cb nab2 zD1 za zb => k D1 H9 m9 ⟨la, lb, Nw.at zD1 eD1, Nw.at za (by rw [CL, two_t] at ca; exact ca), Nw.at zb (by rw [CL, two_k] at cb; exact cb), nab2⟩
  · show 1 < 2; decide
  · have hb2 := m _ _ ((upd_ne (ne_kind hb hqd (by simp))).trans hb)
    obtain ⟨a', rfl, ha'⟩ : ∃ a', x = .ref a' ∧ H2 a' = some (.lst ((two bx.tty [] s).map V.int)) := by
      rcases hx with ⟨rfl, rfl⟩ | ⟨rfl, rfl⟩
      · exact ⟨_, rfl, m _ _ ((upd_ne (ne_kind hqa hqd (by simp))).trans hqa)⟩
      · exact ⟨_, rfl, m _ _ ((upd_ne (ne_kind hqb hqd (by simp))).trans hqb)⟩
    exact ⟨_, rfl, b, _, dx, _, _, rfl, hb2, T.c_Box, T.n_Box_out_rows, rfl, _, rfl, o, .ref a', rfl, .inl ⟨_, Sum.inr s, .inr ⟨od, m _ _ upd_same⟩, rfl, hvx.symm⟩, a', _, rfl, .inl ha', fun l hl => hR l _ hl (Same.new hl) upd_same⟩
end
end W73
set_option Elab.async false
set_option linter.all false
set_option maxRecDepth 100000
set_option maxHeartbeats 4000000
namespace W73
open PySem PySem.Spec PyProof.Rows L2
open C8 (Cal Met Mak pe_c pe_mk pe_mt pe_mt0 pe_gc pss_cut tCut)
section
variable {P : Program} {w : World} {K : PySem.W.Frag} {mg : Str → Option Value} {base : Heap}
/-! ### bare steps -/
def badEnd (d : D) : Prop := ∃ nm ds, d = .t (.s nm :: ds) ∧ nm ≠ "done"
theorem step0_end {c : Cv} {se : List Int} {ms : Ms} {r : R0} {d : D} (e : (step0 c se ms r).2 = some d) : badEnd d := by
  cases r with
  | trap x => cases e; exact ⟨_, _, rfl, by decide⟩
  | load a b =>
    simp only [step0] at e
    split at e
    · cases e; exact ⟨_, _, rfl, by decide⟩
    · cases e
  | store a b =>
    simp only [step0] at e
    split at e
    · cases e; exact ⟨_, _, rfl, by decide⟩
    · cases e
  | _ => cases e
theorem run0_end {c : Cv} {se : List Int} : ∀ {l : List R0} {ms : Ms} {d : D}, (run0 c se ms l).2 = some d → badEnd d
  | [], _, _, e => by cases e
  | r :: l, ms, d, e => by
    unfold run0 at e
    split at e
    · exact run0_end e
    · rename_i h
      have := step0_end (d := d) (c := c) (se := se) (ms := ms) (r := r)
      rw [h] at this
      exact this e
theorem step1_end {c : Cv} {se : List Int} {ms : Ms} {r : Row} {d : D} (e : (step1 c se ms r).2 = some d) : badEnd d := by
  cases r with
  | r z => exact step0_end e
  | iff a x y => exact run0_end e
theorem run1_end {c : Cv} {se : List Int} : ∀ {l : List Row} {ms : Ms} {d : D}, (run1 c se ms l).2 = some d → badEnd d
  | [], _, _, e => by cases e
  | r :: l, ms, d, e => by
    unfold run1 at e
    split at e
    · exact run1_end e
    · rename_i h
      have := step1_end (d := d) (c := c) (se := se) (ms := ms) (r := r)
      rw [h] at this
      exact this e
theorem tr_end {c : Cv} {rs : List Int} {n : Int} {d : D} (e : tr c rs n = .inl d) : badEnd d := by
  unfold tr at e
  split at e
  · cases e; exact ⟨_, _, rfl, by decide⟩
  · split at e
    · cases e; exact ⟨_, _, rfl, by decide⟩
    · split at e
      · cases e; exact ⟨_, _, rfl, by decide⟩
      · split at e
        · rename_i h
          cases e
          exact run1_end (congrArg Prod.snd h)
        · cases e
theorem asg_keys {se : List Int} {ms : Ms} {r : Rf} {w : Int} : (asg se ms r w).keys = ms.keys := by cases r <;> rfl
theorem step0_keys {c : Cv} {se : List Int} {ms : Ms} {r : R0} : (step0 c se ms r).1.keys.length ≤ ms.keys.length := by
  cases r with
  | load a b => simp only [step0]; split <;> simp [asg_keys]
  | store a b => simp only [step0]; split <;> simp
  | inn a => simp [step0, asg_keys]
  | _ => simp [step0, asg_keys]
theorem run0_keys {c : Cv} {se : List Int} : ∀ {l : List R0} {ms : Ms}, (run0 c se ms l).1.keys.length ≤ ms.keys.length
  | [], _ => Nat.le_refl _
  | r :: l, ms => by
    have h1 := step0_keys (c := c) (se := se) (ms := ms) (r := r)
    unfold run0
    split
    · rename_i e
      rw [e] at h1
      exact Nat.le_trans run0_keys h1
    · rename_i e
      rw [e] at h1
      exact h1
theorem step1_keys {c : Cv} {se : List Int} {ms : Ms} {r : Row} : (step1 c se ms r).1.keys.length ≤ ms.keys.length := by
  cases r with
  | r z => exact step0_keys
  | iff a x y => exact run0_keys
theorem run1_keys {c : Cv} {se : List Int} : ∀ {l : List Row} {ms : Ms}, (run1 c se ms l).1.keys.length ≤ ms.keys.length
  | [], _ => Nat.le_refl _
  | r :: l, ms => by
    have h1 := step1_keys (c := c) (se := se) (ms := ms) (r := r)
    unfold run1
    split
    · rename_i e
      rw [e] at h1
      exact Nat.le_trans run1_keys h1
    · rename_i e
      rw [e] at h1
      exact h1
theorem tr_keys {c : Cv} {rs : List Int} {n : Int} {se : List Int} {ms : Ms} (e : tr c rs n = .inr (se, ms)) : ms.keys.length ≤ c.keys.length := by
  unfold tr at e
  split at e
  · cases e
  · split at e
    · cases e
    · split at e
      · cases e
      · split at e
        · cases e
        · rename_i i _ _ ms' h
          cases e
          show ((ms, (none : Option D)) : Ms × Option D).1.keys.length ≤ _
          rw [← h]
          exact run1_keys
def bareM (c : Cv) (rs : List Int) (n : Int) : D ⊕ (List Int × Int × Bx) := match tr c rs n with
  | .inl d => .inl d
  | .inr (_, ms) => .inr (ms.regs, (match ms.goal with | none => (n + 1).fmod c.g.wd | some g => g), ⟨frs c.fr ms.cells, ms.sw, ms.keys, ms.tty⟩)
theorem wo2 {H : Hp} {b q x : Addr} {C d : Addr} {l : List (Str × V)} {kv : List (Key × V)} {u : HO} (hb : H b = some (.ins C d l)) (hq : H q = some (.dK kv)) (hx : H x = some u) (n1 : ∀ C d l, u ≠ .ins C d l) (n2 : ∀ kv, u ≠ .dK kv) : Wo [b, q] H x = some u := Wo.at hx (by
  simp only [List.mem_cons, List.not_mem_nil, or_false, not_or]
  exact ⟨ne_kind hx hb fun z => n1 _ _ _ z, ne_kind hx hq fun z => n2 _ z⟩)
theorem FrAt.wo {H : Hp} {b q F : Addr} {fr : List (List Int)} {C d : Addr} {l : List (Str × V)} {kv : List (Key × V)} (hb : H b = some (.ins C d l)) (hq : H q = some (.dK kv)) : FrAt H F fr → FrAt (Wo [b, q] H) F fr := fun ⟨as, h, p⟩ =>
  ⟨as, wo2 hb hq h (by simp) (by simp), L2.Paired.mapP p fun _ _ e => wo2 hb hq e (by simp) (by simp)⟩
theorem FrAt.lsts {H H' : Hp} {F : Addr} {fr : List (List Int)} (h : ∀ x u, H x = some (.lst u) → H' x = some (.lst u)) : FrAt H F fr → FrAt H' F fr := fun ⟨as, e, p⟩ => ⟨as, h _ _ e, L2.Paired.mapP p fun _ _ e => h _ _ e⟩
def sp_bare (K : PySem.W.Frag) : Sp := sp4 fun x a r p H Q => ∃ b q m bx mp c rg rs n, x = .ref b ∧ BoxAt K H b q m bx ∧ a = .ref mp ∧ r = .ref rg ∧ p = .int n ∧ MeanAt K (Wo [b, q] H) m c.g ∧ MapAt (Wo [b, q] H) mp c.mp ∧ c.ok ∧ c.fr = bx.fr ∧ c.sw = bx.sw ∧ c.tty = bx.tty ∧ c.keys = bx.keys ∧
  H rg = some (.lst (rs.map V.int)) ∧ rs.length ≤ 1000 ∧ (rs.length : Int) = c.g.r ∧
  (∀ d v H', bareM c rs n = .inl d → Same H H' → TD' H' d v → Q v H') ∧
  ∀ rs' n' bx' t l H', bareM c rs n = .inr (rs', n', bx') → Same (Wo [b, q] H) (Wo [b, q] H') → (∀ S : List Addr, (∀ x ∈ S, x ≠ b ∧ x ≠ q ∧ ∃ u, H x = some u ∧ ∀ xs, u ≠ .lst xs) → BoxAt K (Wo S H') b q m bx') → H' t = some (.tup [.str "done", .ref l, .int n']) → H' l = some (.lst (rs'.map V.int)) → Q (.ref t) H'
theorem ok_bare (T : Tz P w K mg) : Met P w K mg base 8 (C_Box K) "bare" (sp_bare K) [] := by
  have c_BoxView : Mak P w K mg base 2 "BoxView" (C_BoxView K) (sp_BoxView_init K) [] := ok_BoxView_init T
  have c_tried : Cal P w K mg base 7 "tried" (sp_tried K) [] := ok_tried T
  have c_next_pc : Cal P w K mg base 3 "next_pc" (sp_next_pc K) [] := ok_next_pc T
  have c_Draft_frames : Met P w K mg base 1 (C_Draft K) "frames" (sp_dframes K) [] := ok_frames T
  refine mk_Box_bare T.toTx len4 fun f cdv A outer s H vs Q E hr h => ?_
  obtain ⟨_, _, _, _, rfl, b, q, m, bx, mp, c, rg, rs, n, rfl, ⟨dx, F, sp, o, hb, hF, hs, ho, ⟨qa, qb, hq, hqa, hqb, nqab⟩⟩, rfl, rfl, rfl, hm, hmp, cok, ef, es, et, ek, hrg, lrs, ers, k1, k2⟩ := h
  have hu := hu_of hr
  have hz := sizeL
  refine ⟨_, (pss_cons (ps_set (i := 4) sc_Box_bare.nd rfl (Or.inl rfl) (pe_mk c_BoxView hr (by first | decide | omega) rfl (pa_cons (pe_fld (pv 0) rfl) (pa_cons (pe_fld (pv 0) rfl) (pa_cons (pe_fld (pv 0) rfl) (pa_cons (pe_fld (pv 0) rfl) (pa_cons (pe_fld (pv 0) rfl) (pa_cons (pv 1) pa_nil))))))))
    (pss_cons (ps_set (i := 5) sc_Box_bare.nd rfl (Or.inl rfl) (pe_c c_tried hr (by first | decide | omega) rfl (pa_cons (pv 4) (pa_cons (pv 2) (pa_cons (pv 3) (pa_cons pe_bl pa_nil))))))
    (pss_cons (ps_if (pt_cmpR op_ne (pe_ix ix_tup (pv 5) pe_int (fun _ _ => rfl)) pe_str (nomark _)) (pss_one (ps_ret (pv 5))) pss_nil)
    (pss_cons (ps_set (i := 6) sc_Box_bare.nd rfl (Or.inl rfl) (pe_ix ix_tup (pv 5) pe_int (fun _ _ => rfl)))
    (pss_cons (ps_asg (pe_tup (pa_cons (pe_mt0 c_Draft_frames hr (by first | decide | omega) (pv 6)) (pa_cons (pe_fld (pv 6) rfl) (pa_cons (pe_fld (pv 6) rfl) pa_nil)))) (pg_tup rfl (pgs_cons (pg_fld (pv 0)) (pgs_cons (pg_fld (pv 0)) (pgs_cons (pg_fld (pv 0)) pgs_nil)))))
    (pss_cons (ps_lock (ps_for PassesOwn.never rfl (pi_keys (pe_fld (pv 6) rfl)) (pg_name (i := 7) sc_Box_bare.nd rfl (Or.inl rfl)) (pss_one (ps_dput hu (pe_fld (pv 0) rfl) (pv 7) (pe_lc (g := gTupH 2 (gCons (gName 8) (gCons (gName 9) gNil))) (own := [("count", 8), ("word", 9)]) (tt := tYes) rfl sc_Box_bare.nd (pi_list (pe_dget hu (pe_fld (pv 6) rfl) (pv 7) (fun _ _ => rfl))) (blkOk_by (N := ["self", "mapping", "registers", "pc", "view", "end", "draft", "port", "count", "word"]) (sc := defScope s_Box_bare) (by decide +kernel)) (fun _ _ _ _ _ => (pg_tupH rfl (pgs_cons (pg_name (i := 8) sc_Box_bare.nd rfl (Or.inl rfl)) (pgs_cons (pg_name (i := 9) sc_Box_bare.nd rfl (Or.inl rfl)) pgs_nil)))) (fun _ _ _ _ _ => pts_nil) (fun _ _ _ _ _ => (pv 9))) rfl))))
    (pss_one (ps_ret (pe_tup (pa_cons pe_str (pa_cons (pe_callTy call_list_of (by rfl) T.b_list boot_list (pa_cons (pe_fld (pv 6) rfl) pa_nil)) (pa_cons (pe_c c_next_pc hr (by first | decide | omega) rfl (pa_cons (pv 6) (pa_cons (pv 3) pa_nil))) pa_nil)))))))))))), ?_⟩
  refine ⟨_, rfl, b, _, dx, _, _, rfl, hb, T.c_Box, T.n_Box_ground, rfl, _, rfl, b, _, dx, _, _, rfl, hb, T.c_Box, T.n_Box_frame_rows, rfl, _, rfl, b, _, dx, _, _, rfl, hb, T.c_Box, T.n_Box_special_words, rfl, _, rfl, b, _, dx, _, _, rfl, hb, T.c_Box, T.n_Box_out_rows, rfl, _, rfl, b, _, dx, _, _, rfl, hb, T.c_Box, T.n_Box_answer_rows, rfl, _, rfl, fun y dy hy hdy ndy => ?_⟩
  have mW : Same (Wo [b, q] H) (Wo (y :: [b, q]) (upd (upd H dy (.own y)) y (.ins (C_BoxView K) dy []))) := fun x u e => by
    have e' := Wo.to _ _ e
    have nx : x ∉ [b, q] := fun z => by simp only [Wo, z, if_true] at e; cases e
    have ny : x ≠ y := fun z => by rw [z, hy] at e'; cases e'
    refine Wo.at ((upd_ne ny).trans ((upd_ne (fun z => by rw [z, hdy] at e'; cases e')).trans e')) fun z => ?_
    rcases List.mem_cons.mp z with z | z
    · exact ny z
    · exact nx z
  have mT : ∀ {x u}, H x = some u → (upd (upd H dy (.own y)) y (.ins (C_BoxView K) dy [])) x = some u := fun {x u} e => (upd_ne (fun z => by rw [z, hy] at e; cases e)).trans ((upd_ne (fun z => by rw [z, hdy] at e; cases e)).trans e)
  refine ⟨_, _, _, _, _, _, _, rfl, [b, q], y, dy, m, F, sp, o, q, mp, c, ?_, ?_, rfl, upd_same, rfl, rfl, rfl, rfl, rfl, rfl, hm.same mW, by rw [ef]; exact hF.same mW, by rw [es]; exact mW _ _ hs, by rw [et]; exact ho.same mW, by rw [ek]; exact ⟨qa, qb, mT hq, mT hqa, mT hqb, nqab⟩, hmp.same mW, cok, fun H2 b2 vw2 => ⟨rfl, ?_⟩⟩
  · intro x hx
    simp only [List.mem_cons, List.not_mem_nil, or_false] at hx
    rcases hx with rfl | rfl
    · exact ⟨_, mT hb, by simp⟩
    · exact ⟨_, mT hq, by simp⟩
  · simp only [List.mem_cons, List.not_mem_nil, or_false, not_or]
    exact ⟨fun z => (by rw [← z, hy] at hb; cases hb), fun z => (by rw [← z, hy] at hq; cases hq)⟩
  have m2 : Same H H2 := b2.made hy hdy
  clear mW mT b2
  refine ⟨_, rfl, _, rfl, _, rfl, _, _, _, _, rfl, y, c, rg, rs, n, rfl, vw2.same Wo.to, cok, rfl, m2 _ _ hrg, lrs, ers, rfl, rfl, fun d x H3 e m3 td => ?_, fun se ms t a H3 e m3 ht dn fr ev => ?_⟩
  · obtain ⟨nm, ds, rfl, nd⟩ := tr_end e
    obtain ⟨t, us, rfl, ht, ts⟩ := td.tup
    obtain ⟨us', rfl⟩ : ∃ us', us = .str nm :: us' := by
      cases ts with
      | cons t1 ts => cases t1; exact ⟨_, rfl⟩
    refine ⟨_, rfl, _, _, _, .str nm, rfl, rfl, .inl (.inl ht), atI_nat (j := 0) rfl, rfl, _, rfl, iP (by simp [nd]) ⟨_, rfl, ?_⟩⟩
    exact k1 _ _ _ (by unfold bareM; rw [e]) (m2.trans m3) td
  refine ⟨_, rfl, _, _, _, _, rfl, rfl, .inl (.inl ht), rfl, rfl, _, rfl, iteF ?_⟩
  refine ⟨_, rfl, _, _, _, .ref a.d, rfl, rfl, .inl (.inl ht), rfl, ?_⟩
  have m3' : Same H H3 := m2.trans m3
  have di := dn.dr.i
  have fr0 : ∀ x ∈ a.ou :: a.an :: a.S, H x = none := fun x hx => by
    cases z : H x with
    | none => rfl
    | some u => have := m2 _ _ z; rw [fr x hx] at this; cases this
  refine ⟨_, rfl, a.d, a.dx, _, rfl, di, rfl, _, rfl, a, se, ms, c, 0, rfl, dn, fun F' H4 m4 hF4 nF4 => ?_⟩
  have d4 := dn.dr.same m4
  refine ⟨_, rfl, a.d, _, a.dx, _, _, rfl, d4.i, T.c_Draft, T.n_Draft_special_words, rfl, _, rfl, a.d, _, a.dx, _, _, rfl, d4.i, T.c_Draft, T.n_Draft_out_rows, rfl, by show 3 ≤ sizeLine; decide, fun tt htt => ?_⟩
  have m5 := Same.new (o := .tup [.ref F', .ref a.sw, .ref a.ou]) htt
  have ett : (upd H4 tt (.tup [.ref F', .ref a.sw, .ref a.ou])) tt = some (.tup [.ref F', .ref a.sw, .ref a.ou]) := upd_same
  generalize upd H4 tt (.tup [.ref F', .ref a.sw, .ref a.ou]) = H5 at m5 ett ⊢
  have m5' : Same H H5 := (m3'.trans m4).trans m5
  have hb5 := m5' _ _ hb
  have hq5 := m5' _ _ hq
  refine ⟨tt, _, rfl, .inl (.inl ett), rfl, _, _, rfl, _, rfl, b, _, dx, _, rfl, hb5, T.c_Box, T.n_Box_frame_rows, by show 5 < 1000; decide, ?_⟩
  refine ⟨_, _, rfl, _, rfl, b, _, dx, _, rfl, upd_same, T.c_Box, T.n_Box_special_words, by show 5 < 1000; decide, ?_⟩
  rw [upd_upd]
  refine ⟨_, _, rfl, _, rfl, b, _, dx, _, rfl, upd_same, T.c_Box, T.n_Box_out_rows, by show 5 < 1000; decide, ?_⟩
  rw [upd_upd]
  refine ⟨rfl, ?_⟩
  generalize hH : upd H5 b _ = H6
  have b6 : Bt b H5 H6 := hH ▸ .put
  have e6 : H6 b = some (.ins (C_Box K) dx [("ground", .ref m), ("frame_rows", .ref F'), ("special_words", .ref a.sw), ("answer_rows", .ref q), ("out_rows", .ref a.ou)]) := by rw [← hH]; exact upd_same
  clear hH
  have nbq : ∀ x ∈ a.ou :: a.an :: a.S, x ∉ [b, q] := fun x hx z => by
    simp only [List.mem_cons, List.not_mem_nil, or_false] at z
    have := fr0 x hx
    rcases z with rfl | rfl
    · rw [hb] at this; cases this
    · rw [hq] at this; cases this
  have d5 := dn.dr.same (m4.trans m5)
  have dX : DrAt K (Wo [b, q] H5) a se ms := by
    obtain ⟨ps, p1, p2⟩ := d5.lk
    exact ⟨Wo.at d5.i (nbq _ (by simp [DA.S])), wo2 hb5 hq5 d5.sp (by simp) (by simp), wo2 hb5 hq5 d5.se (by simp) (by simp), wo2 hb5 hq5 d5.te (by simp) (by simp), wo2 hb5 hq5 d5.ce (by simp) (by simp), Wo.at d5.sw (nbq _ (by simp [DA.S])), Wo.at d5.ou (nbq _ (by simp)),
      wo2 hb5 hq5 d5.lo (by simp) (by simp), wo2 hb5 hq5 d5.lp (by simp) (by simp), Wo.at d5.an (nbq _ (by simp)), wo2 hb5 hq5 d5.la (by simp) (by simp), ⟨ps, wo2 hb5 hq5 p1 (by simp) (by simp), L2.Paired.mapP p2 fun _ _ e => wo2 hb5 hq5 e (by simp) (by simp)⟩, d5.nd, d5.nd2⟩
  have mX6 : Same (Wo [b, q] H5) (Wo [b, q] H6) := fun x u e => by
    have nx : x ∉ [b, q] := fun z => by simp only [Wo, z, if_true] at e; cases e
    exact Wo.at (b6 _ _ (fun z => nx (by simp [z])) (Wo.to _ _ e)) nx
  have dX6 := dX.same mX6
  have d6 : DrAt K H6 a se ms := dX6.same Wo.to
  have hq6 : H6 q = some (.dK [(Sum.inr "tty", .ref qa), (Sum.inr "keys", .ref qb)]) := b6 _ _ (fun z => by rw [z, hb5] at hq5; cases hq5) hq5
  refine ⟨a.an, _, d6.an, trivial, fun od => ?_⟩
  have ed : (upd H6 a.an (.frz od (.dK [(Sum.inr "tty", .ref a.la), (Sum.inr "keys", .ref a.lk)]))) a.an = some (.frz od (.dK [(Sum.inr "tty", .ref a.la), (Sum.inr "keys", .ref a.lk)])) := upd_same
  have nq : q ≠ a.an := fun z => nbq a.an (by simp) (by simp [z])
  have nf : ∀ {x u}, H6 x = some u → (∀ z, u ≠ .dK z) → (upd H6 a.an (.frz od (.dK [(Sum.inr "tty", .ref a.la), (Sum.inr "keys", .ref a.lk)]))) x = some u := fun {x u} e n => (upd_ne (fun z => by rw [z, d6.an] at e; cases e; exact n _ rfl)).trans e
  have un : ∀ H', Same (Wo [q] (upd H6 a.an (.frz od (.dK [(Sum.inr "tty", .ref a.la), (Sum.inr "keys", .ref a.lk)])))) (Wo [q] H') → Same (Wo [q] H6) (Wo [q] (upd H' a.an (.dK [(Sum.inr "tty", .ref a.la), (Sum.inr "keys", .ref a.lk)]))) := fun H' mm x u e => by
    have nx : x ∉ [q] := fun z => by simp only [Wo, z, if_true] at e; cases e
    have e' := Wo.to _ _ e
    refine Wo.at ?_ nx
    by_cases z : x = a.an
    · rw [z, upd_same, ← d6.an, ← z, e']
    · rw [upd_ne z]
      exact Wo.to _ _ (mm _ _ (Wo.at ((upd_ne z).trans e') nx))
  have hq7 : (upd H6 a.an (.frz od (.dK [(Sum.inr "tty", .ref a.la), (Sum.inr "keys", .ref a.lk)]))) q = some (.dK [(Sum.inr "tty", .ref qa), (Sum.inr "keys", .ref qb)]) := (upd_ne nq).trans hq6
  have e7 := nf e6 (by simp)
  have di7 := nf d6.i (by simp)
  have la7 := nf d6.la (by simp)
  obtain ⟨ps, lk6, pp6⟩ := d6.lk
  have lk7 := nf lk6 (by simp)
  have pp7 := L2.Paired.mapP pp6 fun _ _ e => nf e (by simp)
  have eqa6 : H6 qa = some (.lst []) := b6 _ _ (ne_kind (m5' _ _ hqa) hb5 (by simp)) (m5' _ _ hqa)
  have eqa7 := nf eqa6 (by simp)
  generalize upd H6 a.an (.frz od (.dK [(Sum.inr "tty", .ref a.la), (Sum.inr "keys", .ref a.lk)])) = H7 at ed nf un hq7 e7 di7 la7 lk7 pp7 eqa7 ⊢
  have w7 : ∀ {x u}, H7 x = some u → x ≠ q → Wo [q] H7 x = some u := fun {x u} e n => Wo.at e (by simpa using n)
  refine ⟨_, rfl, a.d, _, a.dx, _, _, rfl, di7, T.c_Draft, T.n_Draft_answer_rows, rfl, a.an, od, rfl, .inl ⟨_, ed, ?_⟩⟩
  refine for_it walk_keys (fun i σ H' => ∃ u, σ = [some (.ref b), some (.ref mp), some (.ref rg), some (.int n), some (.ref y), some (.ref t), some (.ref a.d), u, none, none] ∧ Same (Wo [q] H7) (Wo [q] H') ∧ match i with
    | 0 => H' q = some (.dK [(Sum.inr "tty", .ref qa), (Sum.inr "keys", .ref qb)])
    | 1 => ∃ l1, H' q = some (.dK [(Sum.inr "tty", .ref l1), (Sum.inr "keys", .ref qb)]) ∧ H' l1 = some (.lst [])
    | _ => ∃ l1 l2, H' q = some (.dK [(Sum.inr "tty", .ref l1), (Sum.inr "keys", .ref l2)]) ∧ H' l1 = some (.lst []) ∧ H' l2 = some (.lst (ms.keys.map V.int)) ∧ l1 ≠ l2) ⟨_, rfl, Same.refl _, hq7⟩ (fun i σ H' _ ⟨_, _, mm, _⟩ => Wo.to _ _ (mm _ _ (w7 ed nq.symm))) (fun i x σ H' H'' hi ⟨u, eσ, mm, ei⟩ yy => ?_) fun σ H' ⟨u, eσ, mm, l1, l2, eq1, el1, el2, nl⟩ => ?_
  · obtain ⟨rfl, ky, v, hkv, rfl⟩ := yy
    subst eσ
    have di' := Wo.to _ _ (mm _ _ (w7 di7 (ne_kind di7 hq7 (by simp))))
    have ed' := Wo.to _ _ (mm _ _ (w7 ed nq.symm))
    have e7' := Wo.to _ _ (mm _ _ (w7 e7 (ne_kind e7 hq7 (by simp))))
    have lkl : ms.keys.length ≤ 1000 := Nat.le_trans (tr_keys e) cok.kl
    obtain ⟨s, lx, ns, qs, rfl, rfl, hlx, hqs, hvx, lns, hns⟩ : ∃ (s : Str) (lx : Addr) (ns : List Int) (qs : List Addr), ky = Sum.inr s ∧ v = .ref lx ∧ H'' lx = some (.lst (qs.map V.ref)) ∧ Paired (fun p (n : Int) => H'' p = some (.tup [.int 0, .int n])) qs ns ∧ valV ([(Sum.inr "tty", .ref a.la), (Sum.inr "keys", .ref a.lk)] : List (Key × V)) (Sum.inr s) = some (.ref lx) ∧ ns.length ≤ 1000 ∧ (i = 0 ∧ s = "tty" ∧ ns = [] ∨ i = 1 ∧ s = "keys" ∧ ns = ms.keys) := by
      match i, hkv with
      | 0, e => cases e; exact ⟨"tty", _, [], [], rfl, rfl, Wo.to _ _ (mm _ _ (w7 la7 (ne_kind la7 hq7 (by simp)))), .nil, rfl, by simp, .inl ⟨rfl, rfl, rfl⟩⟩
      | 1, e => cases e; exact ⟨"keys", _, ms.keys, ps, rfl, rfl, Wo.to _ _ (mm _ _ (w7 lk7 (ne_kind lk7 hq7 (by simp)))), L2.Paired.mapP pp7 fun _ _ e => Wo.to _ _ (mm _ _ (w7 e (ne_kind e hq7 (by simp)))), rfl, lkl, .inr ⟨rfl, rfl, rfl⟩⟩
      | i + 2, e => simp at e
    have lq := Paired.length hqs
    refine ⟨_, rfl, a.d, _, a.dx, _, _, rfl, di', T.c_Draft, T.n_Draft_answer_rows, rfl, _, rfl, a.an, .ref lx, rfl, .inl ⟨_, Sum.inr s, .inr ⟨od, ed'⟩, rfl, hvx.symm⟩, lx, rfl, ⟨_, .inl (.inl hlx)⟩, fun D hD => ?_⟩
    refine lc_it (walk_list (xs := qs.map V.ref)) (fun j H3 => Same H'' H3 ∧ H3 D = some (.lst ((ns.take j).map V.int))) ⟨Same.new hD, upd_same⟩ (fun j H3 _ h => .inl (.inl (h.1 _ _ hlx))) (fun j z H3 H3' hj ⟨m8, eD⟩ yz => ?_) fun H3 ⟨m8, eD⟩ => ?_
    · obtain ⟨rfl, hy⟩ := yz
      rw [List.getElem?_map] at hy
      obtain ⟨p, hp, rfl⟩ := Option.map_eq_some_iff.mp hy
      obtain ⟨n', hn', hp'⟩ := Paired.at hqs hp
      have hj' : j < ns.length := (List.getElem?_eq_some_iff.mp hn').1
      refine ⟨p, _, rfl, m8 _ _ hp', rfl, _, _, rfl, _, _, rfl, rfl, rfl, yesI ⟨_, rfl, _, eD, by simp; omega, Same.mut m8 hD, ?_⟩⟩
      rw [upd_same, List.take_succ, hn']
      simp
    · rw [List.length_map, lq, List.take_length] at eD
      have e73 := m8 _ _ e7'
      have m8q : Same (Wo [q] H7) (Wo [q] H3) := mm.trans (Wo.mono m8)
      have nDq : D ≠ q := fun z => by
        have : ∃ u, H'' q = some u := by
          rcases hns with ⟨rfl, _⟩ | ⟨rfl, _⟩
          · exact ⟨_, ei⟩
          · obtain ⟨_, ei, _⟩ := ei; exact ⟨_, ei⟩
        obtain ⟨u, hu⟩ := this
        rw [z, hu] at hD
        cases hD
      rcases hns with ⟨rfl, rfl, rfl⟩ | ⟨rfl, rfl, rfl⟩
      · refine ⟨_, rfl, b, _, dx, _, _, rfl, e73, T.c_Box, T.n_Box_answer_rows, rfl, _, rfl, q, _, rfl, DPut.k (k := Sum.inr "tty") (m8 _ _ ei) (by show 2 < sizeLine; omega), _, rfl, ?_, D, upd_same, (upd_ne nDq).trans eD⟩
        rw [Wo.put (by simp)]
        exact m8q
      · obtain ⟨l1, ei, el1⟩ := ei
        refine ⟨_, rfl, b, _, dx, _, _, rfl, e73, T.c_Box, T.n_Box_answer_rows, rfl, _, rfl, q, _, rfl, DPut.k (k := Sum.inr "keys") (m8 _ _ ei) (by show 2 < sizeLine; omega), _, rfl, ?_, l1, D, upd_same, (upd_ne (fun z => ?_)).trans (m8 _ _ el1), (upd_ne nDq).trans eD, fun z => ?_⟩
        · rw [Wo.put (by simp)]
          exact m8q
        · rw [z, ei] at el1; cases el1
        · rw [← z, el1] at hD; cases hD
  · subst eσ
    have m68 := un H' mm
    have l1an : l1 ≠ a.an := fun z => by rw [z, Wo.to _ _ (mm _ _ (w7 ed nq.symm))] at el1; cases el1
    have l2an : l2 ≠ a.an := fun z => by rw [z, Wo.to _ _ (mm _ _ (w7 ed nq.symm))] at el2; cases el2
    refine ⟨Wo.to _ _ (mm _ _ (w7 ed nq.symm)), ?_⟩
    have eq8 := (upd_ne (o := .dK [(Sum.inr "tty", .ref a.la), (Sum.inr "keys", .ref a.lk)]) nq).trans eq1
    have el18 := (upd_ne (o := .dK [(Sum.inr "tty", .ref a.la), (Sum.inr "keys", .ref a.lk)]) l1an).trans el1
    have el28 := (upd_ne (o := .dK [(Sum.inr "tty", .ref a.la), (Sum.inr "keys", .ref a.lk)]) l2an).trans el2
    generalize upd H' a.an (.dK [(Sum.inr "tty", .ref a.la), (Sum.inr "keys", .ref a.lk)]) = H8 at m68 eq8 el18 el28 ⊢
    have mbq : Same (Wo [b, q] H6) (Wo [b, q] H8) := fun x u e => by
      have nx : x ∉ [b, q] := fun z => by simp only [Wo, z, if_true] at e; cases e
      have nxq : x ∉ [q] := fun z => nx (List.mem_cons_of_mem _ z)
      exact Wo.at (Wo.to _ _ (m68 _ _ (Wo.at (Wo.to _ _ e) nxq))) nx
    have dX8 := dX6.same mbq
    have d8 : DrAt K H8 a se ms := dX8.same Wo.to
    have nbq' : b ≠ q := fun z => by rw [z, hq] at hb; cases hb
    have e8 : H8 b = some (.ins (C_Box K) dx [("ground", .ref m), ("frame_rows", .ref F'), ("special_words", .ref a.sw), ("answer_rows", .ref q), ("out_rows", .ref a.ou)]) := Wo.to _ _ (m68 _ _ (Wo.at e6 (by simpa using nbq')))
    have vw8 : ViewAt K (Wo a.S H8) a.v c := by
      rw [ev]
      refine vw2.same fun x u e => ?_
      have nx : x ∉ [b, q] := fun z => by simp only [Wo, z, if_true] at e; cases e
      have e' := Wo.to _ _ e
      refine Wo.at (Wo.to _ _ (mbq _ _ (mX6 _ _ (Wo.at (m5 _ _ (m4 _ _ (m3 _ _ e'))) nx)))) fun z => ?_
      rw [fr x (List.mem_cons_of_mem _ (List.mem_cons_of_mem _ z))] at e'
      cases e'
    have dn8 : Dn K H8 a se ms c 0 := ⟨d8, vw8, dn.ok, cok⟩
    refine ⟨_, rfl, a.d, _, a.dx, _, _, rfl, d8.i, T.c_Draft, T.n_Draft_spots, rfl, a.sp, _, rfl, .inl (.inl (.inl d8.sp)), fun l hl => ?_⟩
    have m9 := Same.new (o := .lst (ms.regs.map V.int)) hl
    have el9 : (upd H8 l (.lst (ms.regs.map V.int))) l = some (.lst (ms.regs.map V.int)) := upd_same
    generalize upd H8 l (.lst (ms.regs.map V.int)) = H9 at m9 el9 ⊢
    refine ⟨_, rfl, _, rfl, _, _, rfl, a, se, ms, c, 0, n, rfl, dn8.same m9, rfl, by show 3 ≤ sizeLine; decide, fun t9 ht9 => ?_⟩
    have m10 : Same H8 (upd H9 t9 _) := m9.trans (Same.new (o := .tup [.str "done", .ref l, .int (match ms.goal with | none => (n + 1).fmod c.g.wd | some g => g)]) ht9)
    have mF : Same (Wo [b, q] H5) (Wo [b, q] (upd H9 t9 _)) := (mX6.trans mbq).trans (Wo.mono m10)
    have fin := (Wo.mono (S := [b, q]) m5').trans mF
    have et9 : (upd H9 t9 (.tup [.str "done", .ref l, .int (match ms.goal with | none => (n + 1).fmod c.g.wd | some g => g)])) t9 = some (.tup [.str "done", .ref l, .int (match ms.goal with | none => (n + 1).fmod c.g.wd | some g => g)]) := upd_same
    have elf := Same.new (o := .tup [.str "done", .ref l, .int (match ms.goal with | none => (n + 1).fmod c.g.wd | some g => g)]) ht9 _ _ el9
    generalize upd H9 t9 (.tup [.str "done", .ref l, .int (match ms.goal with | none => (n + 1).fmod c.g.wd | some g => g)]) = Hf at m10 mF fin et9 elf ⊢
    refine k2 ms.regs _ ⟨frs c.fr ms.cells, ms.sw, ms.keys, ms.tty⟩ t9 l _ (by unfold bareM; rw [e]) fin (fun S hS => ?_) et9 elf
    have nS : ∀ x, H x = none → x ∉ S := fun x e z => by
      obtain ⟨_, _, u, e2, _⟩ := hS x z
      rw [e] at e2
      cases e2
    have lS : ∀ x u, Hf x = some (.lst u) → x ∉ S := fun x u e z => by
      obtain ⟨n1, n2, v, e2, n3⟩ := hS x z
      have := Wo.to _ _ (fin _ _ (Wo.at e2 (by simp [n1, n2])))
      rw [e] at this
      cases this
      exact n3 _ rfl
    have bS : b ∉ S := fun z => (hS b z).1 rfl
    have qS : q ∉ S := fun z => (hS q z).2.1 rfl
    have w2 : ∀ x u, Wo [b, q] Hf x = some u → x ∉ S → Wo [b, q] (Wo S Hf) x = some u := fun x u e n => Wo.at (Wo.at (Wo.to _ _ e) n) fun z => by simp only [Wo, z, if_true] at e; cases e
    refine ⟨dx, F', a.sw, a.ou, Wo.at (m10 _ _ e8) bS, (((hF4.same m5).wo hb5 hq5).same mF).lsts fun x u e => w2 _ _ e (lS _ _ (Wo.to _ _ e)), w2 _ _ (mF _ _ dX.sw) (nS _ (fr0 _ (by simp [DA.S]))), ⟨a.lo, a.lp, w2 _ _ (mF _ _ dX.ou) (nS _ (fr0 _ (by simp))), w2 _ _ (mF _ _ dX.lo) (lS _ _ (Wo.to _ _ (mF _ _ dX.lo))), w2 _ _ (mF _ _ dX.lp) (lS _ _ (Wo.to _ _ (mF _ _ dX.lp))), ?_⟩, ⟨l1, l2, Wo.at (m10 _ _ eq8) qS, Wo.at (m10 _ _ el18) (lS _ _ (m10 _ _ el18)), Wo.at (m10 _ _ el28) (lS _ _ (m10 _ _ el28)), nl⟩⟩
    have nd := d8.nd
    intro z
    simp [z] at nd
end
end W73
set_option Elab.async false
set_option linter.all false
set_option maxRecDepth 100000
set_option maxHeartbeats 4000000
namespace W73
open PySem PySem.Spec PyProof.Rows L2
open C8 (Cal Met Mak pe_c pe_mk pe_mt pe_mt0 pe_gc pss_cut tCut)
section
variable {P : Program} {w : World} {K : PySem.W.Frag} {mg : Str → Option Value} {base : Heap}
/-! ### copies -/
def Row.isTrap : Row → Bool
  | .r (.trap _) => true
  | _ => false
def isStop (g : Gd) (w : Int) : Bool := match g.code w with
  | none => true
  | some (x, _) => match insOf g.is x with
    | none => true
    | some i => match i.us with
      | [] => false
      | r :: _ => r.isTrap
theorem isTrap_head {r : Row} {nm : Str} (h : r.ds.head? = some (.s nm)) : decide (V.str nm = V.str "trap") = r.isTrap := by
  cases r with
  | r z => cases z <;> (cases h; first | exact decide_eq_true rfl | exact decide_eq_false (by simp; decide))
  | iff a x y => cases h; exact decide_eq_false (by simp; decide)
def sp_is_stop (K : PySem.W.Frag) : Sp := sp2 fun a b H Q => ∃ m g n, a = .ref m ∧ MeanAt K H m g ∧ g.ok ∧ b = .int n ∧ ∀ H', Same H H' → Q (.bl (isStop g n)) H'
theorem ok_is_stop (T : Tz P w K mg) : Cal P w K mg base 3 "is_stop" (sp_is_stop K) [] := by
  have c_Meaning_code_of : Met P w K mg base 1 (C_Meaning K) "code_of" (sp_Meaning_code_of K) [] := ok_Meaning_code_of T
  have c_Meaning_book : Met P w K mg base 1 (C_Meaning K) "book" (sp_Meaning_book K) [] := ok_Meaning_book T
  have c_Book_instruction : Met P w K mg base 2 (C_Book K) "instruction" (sp_Book_instruction K) [] := ok_Book_instruction T
  refine mk_is_stop T.toTx len2 fun f cdv A outer s H vs Q E hr h => ?_
  obtain ⟨_, _, rfl, m, g, n, rfl, hm, gok, rfl, k⟩ := h
  have hz := sizeL
  have ⟨mdx, _, _, _, _, hmi, _⟩ := hm
  refine ⟨_, (pss_cons (ps_set (i := 2) sc_is_stop.nd rfl (Or.inl rfl) (pe_mt c_Meaning_code_of hr (by first | decide | omega) (pv 0) (pa_cons (pv 1) pa_nil)))
    (pss_cons (ps_if (pt_cmpR op_isN (pv 2) pe_non (nomark _)) (pss_one (ps_ret pe_bl)) pss_nil)
    (pss_cons (ps_set (i := 3) sc_is_stop.nd rfl (Or.inl rfl) (pe_ix ix_tup (pe_mt c_Book_instruction hr (by first | decide | omega) (pe_mt0 c_Meaning_book hr (by first | decide | omega) (pv 0)) (pa_cons (pe_ix ix_tup (pv 2) pe_int (fun _ _ => rfl)) pa_nil)) pe_int (fun _ _ => rfl)))
    (pss_one (ps_ret (pe_and (pe_cmpR (op_neE hr.units0) (pv 3) (pe_tup pa_nil) (nomark _)) (pe_one (pe_cmpR op_eq (pe_ix ix_tup (pe_ix ix_tup (pv 3) pe_int (fun _ _ => rfl)) pe_int (fun _ _ => rfl)) pe_str (nomark _))))))))), ?_⟩
  refine ⟨_, rfl, m, mdx, _, rfl, hmi, rfl, _, rfl, _, _, rfl, m, g, n, rfl, hm, rfl, fun e => ?_, fun x ns cv e tcv => ?_⟩
  · refine ⟨_, rfl, rfl, _, rfl, iteT ?_⟩
    have := k H (Same.refl _)
    unfold isStop at this
    rw [e] at this
    exact this
  obtain ⟨i, hi, nlen, nr⟩ := gok.co _ _ _ e
  obtain ⟨ct, cus, rfl, hct, cts⟩ := tcv.tup
  obtain ⟨nv, rfl⟩ : ∃ nv, cus = [.str x, nv] := by
    cases cts with
    | cons t1 ts =>
    cases ts with
    | cons t2 ts =>
    cases ts
    cases t1
    exact ⟨_, rfl⟩
  refine ⟨_, rfl, rfl, _, rfl, iteF ?_⟩
  refine ⟨_, rfl, m, mdx, _, rfl, hmi, rfl, _, rfl, m, g, rfl, hm, fun bk hbk => ?_⟩
  have ⟨bdx, _, _, _, _, hb0, _⟩ := hbk
  refine ⟨bk, bdx, _, rfl, hb0, rfl, _, rfl, _, _, _, _, rfl, rfl, .inl (.inl hct), rfl, _, _, rfl, bk, _, _, x, i, rfl, hbk, rfl, hi, fun tv H3 m3 ttv => ?_⟩
  obtain ⟨tt, tus, rfl, htt, tts⟩ := ttv.tup
  obtain ⟨u1, u2, us', sy', rfl, tus'⟩ : ∃ u1 u2 us' sy', tus = [u1, u2, us', sy'] ∧ TD' H3 (.t (i.us.map Row.d)) us' := by
    cases tts with
    | cons t1 ts =>
    cases ts with
    | cons t2 ts =>
    cases ts with
    | cons t3 ts =>
    cases ts with
    | cons t4 ts =>
    cases ts
    exact ⟨_, _, _, _, rfl, t3⟩
  obtain ⟨ru, rus, rfl, hru, rts⟩ := tus'.tup
  have e1 : isStop g n = match i.us with
      | [] => false
      | r :: _ => r.isTrap := by
    unfold isStop
    rw [e]
    dsimp only
    rw [hi]
  rw [e1] at k
  refine ⟨_, _, _, .ref ru, rfl, rfl, .inl (.inl htt), rfl, ?_⟩
  refine ⟨_, rfl, by show 0 ≤ sizeLine; decide, fun t ht => ⟨ru, t, rus, rfl, rfl, .inl (.inl (Same.new ht _ _ hru)), .inl (.inl upd_same), ?_⟩⟩
  have m4 : Same H3 (upd H3 t (.tup [])) := Same.new ht
  generalize upd H3 t (.tup []) = H4 at m4 ⊢
  refine ⟨_, rfl, ?_⟩
  generalize i.us = rows at rts k
  cases rows with
  | nil => cases rts; exact iteF (k _ (m3.trans m4))
  | cons r l =>
    cases rts with
    | cons t1 ts =>
    obtain ⟨t', nm, us, rfl, ht', hd⟩ := Row.head t1
    refine iteT ⟨_, rfl, _, _, _, .ref t', rfl, rfl, .inl (.inl (m4 _ _ hru)), atI_nat (j := 0) rfl, _, _, _, .str nm, rfl, rfl, .inl (.inl (m4 _ _ ht')), atI_nat (j := 0) rfl, rfl, ?_⟩
    rw [isTrap_head hd]
    exact k _ (m3.trans m4)
/-- the stop words -/
def stops (g : Gd) : List Int := ((List.range g.wd.toNat).map fun i => ((i : Nat) : Int)).filter (isStop g)
def sp_stop_words (K : PySem.W.Frag) : Sp := sp1 fun a H Q => ∃ m g, a = .ref m ∧ MeanAt K H m g ∧ g.ok ∧ ∀ l H', Same H H' → H' l = some (.lst ((stops g).map V.int)) → Q (.ref l) H'
theorem ok_stop_words (T : Tz P w K mg) : Cal P w K mg base 4 "stop_words" (sp_stop_words K) [] := by
  have c_is_stop : Cal P w K mg base 3 "is_stop" (sp_is_stop K) [] := ok_is_stop T
  have c_Meaning_words : Met P w K mg base 1 (C_Meaning K) "words" (sp_Meaning_words K) [] := ok_Meaning_words T
  refine mk_stop_words T.toTx len1 fun f cdv A outer s H vs Q E hr h => ?_
  obtain ⟨_, rfl, m, g, rfl, hm, gok, k⟩ := h
  have hz := sizeL
  have ⟨w6, w1⟩ := gok.wd
  have ⟨mdx, _, _, _, _, hmi, _⟩ := hm
  refine ⟨_, (pss_one (ps_ret (pe_lc  (own := [("word", 1)]) (g := gName 1) rfl sc_stop_words.nd (pi_range1 (by rfl) T.b_range (pa_cons (pe_mt0 c_Meaning_words hr (by first | decide | omega) (pv 0)) pa_nil)) (blkOk_by (N := ["meaning", "word"]) (sc := defScope s_stop_words) (by decide +kernel)) (fun _ _ _ _ _ => (pg_name (i := 1) sc_stop_words.nd rfl (Or.inl rfl))) (fun _ _ _ _ _ => pts_one (pt_val (pe_c c_is_stop hr (by first | decide | omega) rfl (pa_cons (pv 0) (pa_cons (pv 1) pa_nil))))) (fun _ _ _ _ _ => (pv 1))))), ?_⟩
  refine ⟨_, rfl, m, mdx, _, rfl, hmi, rfl, _, rfl, m, g, rfl, hm, gok, g.wd, rfl, by omega, by omega, fun D hD => ?_⟩
  refine lc_it (walk_range (lo := 0) (n := g.wd.toNat)) (fun i H' => Same H H' ∧ H' D = some (.lst ((((List.range i).map fun i => ((i : Nat) : Int)).filter (isStop g)).map V.int))) ⟨Same.new hD, upd_same⟩ (fun _ _ _ _ => trivial) (fun i x H1 H2 hi ⟨m1, e1⟩ y => ?_) fun H1 ⟨m1, e1⟩ => k D H1 m1 e1
  obtain ⟨rfl, rfl⟩ := y
  have mm := hm.same m1
  dsimp only
  rw [show (0 : Int) + (i : Nat) = (i : Nat) by omega]
  refine ⟨rfl, _, rfl, _, rfl, _, _, rfl, m, g, i, rfl, mm, gok, rfl, fun H3 m3 => ⟨_, rfl, ?_⟩⟩
  have el : ((List.range (i + 1)).map fun i => ((i : Nat) : Int)).filter (isStop g) = ((List.range i).map fun i => ((i : Nat) : Int)).filter (isStop g) ++ (if isStop g (i : Nat) then [((i : Nat) : Int)] else []) := by
    rw [List.range_succ, List.map_append, List.filter_append]
    congr 1
    simp [List.filter_cons]
  have hlen : ((((List.range i).map fun i => ((i : Nat) : Int)).filter (isStop g)).map V.int).length < sizeLine := by
    have := List.length_filter_le (isStop g) ((List.range i).map fun i => ((i : Nat) : Int))
    rw [List.length_map, List.length_range] at this
    rw [List.length_map]
    omega
  cases es : isStop g (i : Nat) with
  | true =>
    refine iteT ⟨_, rfl, _, m3 _ _ e1, hlen, Same.mut (m1.trans m3) hD, ?_⟩
    rw [upd_same, el, es]
    simp
  | false =>
    refine iteF ⟨m1.trans m3, ?_⟩
    rw [el, es]
    simpa using m3 _ _ e1
def sp_stop_word (K : PySem.W.Frag) : Sp := sp1 fun a H Q => ∃ m g, a = .ref m ∧ MeanAt K H m g ∧ g.ok ∧ ∀ H', Same H H' → Q (match (stops g).head? with | none => .non | some n => .int n) H'
theorem ok_stop_word (T : Tz P w K mg) : Cal P w K mg base 5 "stop_word" (sp_stop_word K) [] := by
  have c_stop_words : Cal P w K mg base 4 "stop_words" (sp_stop_words K) [] := ok_stop_words T
  refine mk_stop_word T.toTx len1 fun f cdv A outer s H vs Q E hr h => ?_
  obtain ⟨_, rfl, m, g, rfl, hm, gok, k⟩ := h
  refine ⟨_, (pss_cons (ps_set (i := 1) sc_stop_word.nd rfl (Or.inl rfl) (pe_c c_stop_words hr (by first | decide | omega) rfl (pa_cons (pv 0) pa_nil)))
    (pss_one (ps_ret (pe_ifExp (pt_cmpR (op_neLE hr.units0) (pv 1) (pe_lst pa_nil) (nomark _)) (pe_ix ix_list (pv 1) pe_int (fun _ _ => rfl)) pe_non)))), ?_⟩
  refine ⟨_, rfl, _, rfl, m, g, rfl, hm, gok, fun l H1 m1 hl => ?_⟩
  refine ⟨_, rfl, by show 0 ≤ sizeLine; decide, fun t ht => ⟨l, t, _, rfl, rfl, .inl (.inl (Same.new ht _ _ hl)), .inl (.inl upd_same), _, rfl, ?_⟩⟩
  have m2 : Same H1 (upd H1 t (.lst [])) := Same.new ht
  generalize upd H1 t (.lst []) = H2 at m2 ⊢
  have hl2 := m2 _ _ hl
  have kk := k _ (m1.trans m2)
  generalize stops g = ss at hl2 kk
  cases ss with
  | nil => exact iteF kk
  | cons x xs => exact iteT ⟨_, rfl, _, _, _, .int x, rfl, rfl, .inl (.inl hl2), atI_nat (j := 0) rfl, kk⟩
end
end W73
set_option Elab.async false
set_option linter.all false
set_option maxRecDepth 100000
set_option maxHeartbeats 4000000
namespace W73
open PySem PySem.Spec PyProof.Rows L2
open C8 (Cal Met Mak pe_c pe_mk pe_mt pe_mt0 pe_gc pss_cut tCut)
section
variable {P : Program} {w : World} {K : PySem.W.Frag} {mg : Str → Option Value} {base : Heap}
theorem inV_ints {x : Int} : ∀ {l : List Int}, inV (.int x) (l.map V.int) = decide (x ∈ l)
  | [] => by simp [inV]
  | y :: l => by
    have ih : (l.map V.int).any (fun y => eqV y (.int x)) = decide (x ∈ l) := inV_ints
    show ((y == x) || (l.map V.int).any fun y => eqV y (.int x)) = _
    rw [ih, Bool.eq_iff_iff, Bool.or_eq_true, beq_iff_eq, decide_eq_true_eq, decide_eq_true_eq, List.mem_cons]
    exact or_congr ⟨Eq.symm, Eq.symm⟩ Iff.rfl
theorem flat_ints {l : List Int} : (l.map V.int).all flatV = true := by simp [flatV]
def isDbt (g : Gd) (db : List Str) (n : Int) : Bool := match g.code n with
  | none => false
  | some (x, _) => decide (x ∈ db) && !isStop g n
def dbt (g : Gd) (db : List Str) (ns : List Int) : List Int := ((List.range ns.length).filter fun i => isDbt g db ((ns[i]?).getD 0)).map fun i => ((i : Nat) : Int)
theorem dbt_len {g : Gd} {db : List Str} {ns : List Int} : (dbt g db ns).length ≤ ns.length := by
  unfold dbt
  rw [List.length_map]
  have := List.length_filter_le (fun i => isDbt g db ((ns[i]?).getD 0)) (List.range ns.length)
  rwa [List.length_range] at this
def sp_doubtful (K : PySem.W.Frag) : Sp := sp3 fun a b c H Q => ∃ m g d db wl, ∃ ns : List Int, a = .ref m ∧ MeanAt K H m g ∧ g.ok ∧ b = .ref d ∧ H d = some (.lst (db.map V.str)) ∧ c = .ref wl ∧ H wl = some (.lst (ns.map V.int)) ∧ ns.length ≤ 1000 ∧ ∀ l H', Same H H' → H' l = some (.lst ((dbt g db ns).map V.int)) → Q (.ref l) H'
theorem ok_doubtful (T : Tz P w K mg) : Cal P w K mg base 4 "doubtful_places" (sp_doubtful K) [] := by
  have c_is_stop : Cal P w K mg base 3 "is_stop" (sp_is_stop K) [] := ok_is_stop T
  have c_Meaning_code_of : Met P w K mg base 1 (C_Meaning K) "code_of" (sp_Meaning_code_of K) [] := ok_Meaning_code_of T
  refine mk_doubtful_places T.toTx len3 fun f cdv A outer s H vs Q E hr h => ?_
  obtain ⟨_, _, _, rfl, m, g, d, db, wl, ns, rfl, hm, gok, rfl, hd, rfl, hwl, nl, k⟩ := h
  have hz := sizeL
  refine ⟨_, (pss_cons (ps_set (i := 3) sc_doubtful_places.nd rfl (Or.inl rfl) (pe_lst pa_nil))
    (pss_cons (ps_for PassesOwn.never rfl (pi_enum (by rfl) T.b_enumerate (pa_cons (pv 2) pa_nil)) (pg_tup rfl (pgs_cons (pg_name (i := 4) sc_doubtful_places.nd rfl (Or.inl rfl)) (pgs_cons (pg_name (i := 5) sc_doubtful_places.nd rfl (Or.inl rfl)) pgs_nil))) (pss_cons (ps_set (i := 6) sc_doubtful_places.nd rfl (Or.inl rfl) (pe_mt c_Meaning_code_of hr (by first | decide | omega) (pv 0) (pa_cons (pv 5) pa_nil)))
    (pss_one (ps_if (PW.pt (pw_and (pt_cmpR op_notN (pv 6) pe_non (nomark _)) (pw_and (pt_cmpR op_in_seq (pe_ix ix_tup (pv 6) pe_int (fun _ _ => rfl)) (pv 1) rfl) (pw_and1 (pt_not (pt_val (pe_c c_is_stop hr (by first | decide | omega) rfl (pa_cons (pv 0) (pa_cons (pv 5) pa_nil))))))))) (pss_one (ps_expr (pe_bm PySem.F.plainAttrs_list PySem.F.slot_list_append PySem.F.type_list_append mt_append (pv 3) (pa_cons (pv 4) pa_nil)))) pss_nil))))
    (pss_one (ps_ret (pv 3))))), ?_⟩
  refine ⟨by show 0 ≤ sizeLine; decide, fun D hD => ?_⟩
  have mD := Same.new (o := .lst []) hD
  refine ⟨_, rfl, wl, ns.map V.int, rfl, .inl (.inl (mD _ _ hwl)), for_en (vs := ns.map V.int) walk_enum (fun i σ H2 => ∃ u v x, σ = [some (.ref m), some (.ref d), some (.ref wl), some (.ref D), u, v, x] ∧ Same H H2 ∧ H2 D = some (.lst ((((List.range i).filter fun i => isDbt g db ((ns[i]?).getD 0)).map fun i => ((i : Nat) : Int)).map V.int))) ⟨_, _, _, rfl, mD, upd_same⟩ ?_ ?_ ?_⟩
  · rintro i σ H2 _ ⟨_, _, _, _, mm, _⟩
    exact .inl (.inl (mm _ _ hwl))
  · rintro i x σ H2 H3 t hx ⟨u, v, x', rfl, mm, e⟩ m2 ht
    rw [List.getElem?_map] at hx
    obtain ⟨n, hn, rfl⟩ := Option.map_eq_some_iff.mp hx
    have m3 := mm.trans m2
    have hm3 := hm.same m3
    have e3 := m2 _ _ e
    have ⟨mdx, _, _, _, _, hmi, _⟩ := hm3
    have hi : i < ns.length := (List.getElem?_eq_some_iff.mp hn).1
    have hd3 := m3 _ _ hd
    have step : ((List.range (i + 1)).filter fun i => isDbt g db ((ns[i]?).getD 0)).map (fun i => ((i : Nat) : Int)) = (((List.range i).filter fun i => isDbt g db ((ns[i]?).getD 0)).map fun i => ((i : Nat) : Int)) ++ (if isDbt g db n then [((i : Nat) : Int)] else []) := by
      rw [List.range_succ, List.filter_append, List.map_append]
      congr 1
      rw [List.filter_cons, hn]
      dsimp only [Option.getD]
      split <;> simp
    have lle : (((List.range i).filter fun i => isDbt g db ((ns[i]?).getD 0)).map fun i => ((i : Nat) : Int)).length ≤ i := by
      have := List.length_filter_le (fun i => isDbt g db ((ns[i]?).getD 0)) (List.range i)
      rw [List.length_map]
      rwa [List.length_range] at this
    rw [step]
    generalize ((List.range i).filter fun i => isDbt g db ((ns[i]?).getD 0)).map (fun i => ((i : Nat) : Int)) = acc at e3 lle
    have no : isDbt g db n = false → ∀ H4, Same H3 H4 → H4 D = some (.lst ((acc ++ (if isDbt g db n then [((i : Nat) : Int)] else [])).map V.int)) := fun e0 H4 m4 => by
      rw [e0]
      simpa using m4 _ _ e3
    refine ⟨t, _, rfl, .inl (.inl ht), rfl, _, _, rfl, _, _, rfl, rfl, ?_⟩
    refine ⟨_, rfl, m, mdx, _, rfl, hmi, rfl, _, rfl, _, _, rfl, m, g, n, rfl, hm3, rfl, fun ec => ?_, fun x ns' cv ec tcv => ?_⟩
    · refine ⟨_, rfl, rfl, _, rfl, iteF ⟨_, _, _, rfl, m3, no ?_ _ (Same.refl _)⟩⟩
      unfold isDbt
      rw [ec]
    · obtain ⟨ct, cus, rfl, hct, cts⟩ := tcv.tup
      obtain ⟨nv, rfl⟩ : ∃ nv, cus = [.str x, nv] := by
        cases cts with
        | cons t1 ts =>
        cases ts with
        | cons t2 ts =>
        cases ts
        cases t1
        exact ⟨_, rfl⟩
      have ei : isDbt g db n = (decide (x ∈ db) && !isStop g n) := by
        unfold isDbt
        rw [ec]
      refine ⟨_, rfl, rfl, _, rfl, iteT ?_⟩
      refine ⟨_, rfl, _, _, _, .str x, rfl, rfl, .inl (.inl hct), atI_nat (j := 0) rfl, _, rfl, d, _, rfl, .inl (.inl (.inl hd3)), rfl, flat_strs, ?_⟩
      show ∃ k, V.bl (inV (.str x) (db.map V.str)) = .bl k ∧ _
      rw [inV_strs]
      refine ⟨_, rfl, ?_⟩
      by_cases hx : x ∈ db
      · rw [decide_eq_true hx]
        refine iteT ⟨_, rfl, _, rfl, _, _, rfl, m, g, n, rfl, hm3, gok, rfl, fun H4 m4 => ⟨_, rfl, ?_⟩⟩
        cases es : isStop g n with
        | true => exact iteF ⟨_, _, _, rfl, m3.trans m4, no (by rw [ei, es]; simp) _ m4⟩
        | false =>
          refine iteT ?_
          refine ⟨_, rfl, .inl ⟨rfl, _, .inl (.inl (m4 _ _ e3))⟩, _, rfl, D, _, _, rfl, rfl, m4 _ _ e3, by rw [List.length_map]; omega, _, _, _, rfl, Same.mut (m3.trans m4) hD, ?_⟩
          rw [upd_same, ei, es, decide_eq_true hx]
          simp
      · rw [decide_eq_false hx]
        exact iteF ⟨_, _, _, rfl, m3, no (by rw [ei, decide_eq_false hx]; rfl) _ (Same.refl _)⟩
  · rintro σ H2 ⟨u, v, x, rfl, mm, e⟩
    refine ⟨_, rfl, k D H2 mm ?_⟩
    rw [e, List.length_map]
    rfl
/-- the words of a copy -/
def cpw (g : Gd) (db : List Str) (ns : List Int) (st : Int) : List Int := (List.range ns.length).map fun i => if ((i : Nat) : Int) ∈ dbt g db ns then st else (ns[i]?).getD 0
def sp_copied (K : PySem.W.Frag) : Sp := sp3 fun a b c H Q => ∃ m g d db wl st, ∃ ns : List Int, a = .ref m ∧ MeanAt K H m g ∧ g.ok ∧ b = .ref d ∧ H d = some (.lst (db.map V.str)) ∧ c = .ref wl ∧ H wl = some (.lst (ns.map V.int)) ∧ ns.length ≤ 1000 ∧ (stops g).head? = some st ∧ ∀ l H', Same H H' → H l = none → H' l = some (.lst ((cpw g db ns st).map V.int)) → Q (.ref l) H'
theorem ok_copied (T : Tz P w K mg) : Cal P w K mg base 6 "copied_words" (sp_copied K) [] := by
  have c_stop_word : Cal P w K mg base 5 "stop_word" (sp_stop_word K) [] := ok_stop_word T
  have c_doubtful_places : Cal P w K mg base 4 "doubtful_places" (sp_doubtful K) [] := ok_doubtful T
  refine mk_copied_words T.toTx len3 fun f cdv A outer s H vs Q E hr h => ?_
  obtain ⟨_, _, _, rfl, m, g, d, db, wl, st, ns, rfl, hm, gok, rfl, hd, rfl, hwl, nl, hst, k⟩ := h
  have hz := sizeL
  refine ⟨_, (pss_cons (ps_set (i := 3) sc_copied_words.nd rfl (Or.inr rfl) (pe_c c_stop_word hr (by first | decide | omega) rfl (pa_cons (pv 0) pa_nil)))
    (pss_cons (ps_if (pt_cmpR op_isN (pv 3) pe_non (nomark _)) pss_never pss_nil)
    (pss_cons (ps_set (i := 4) sc_copied_words.nd rfl (Or.inr rfl) (pe_c c_doubtful_places hr (by first | decide | omega) rfl (pa_cons (pv 0) (pa_cons (pv 1) (pa_cons (pv 2) pa_nil)))))
    (pss_one (ps_ret (pe_lc (g := gTupH 2 (gCons (gName 5) (gCons (gName 6) gNil))) (te := tIf (tTest (tOp (rIn K false) (tVar 5) (tVar 4))) (tVar 3) (tVar 6)) (own := [("place", 5), ("word", 6)]) (tt := tYes) rfl sc_copied_words.nd (pi_enum (by rfl) T.b_enumerate (pa_cons (pv 2) pa_nil)) (blkOk_by (N := ["meaning", "doubted", "words", "stop", "places", "place", "word"]) (sc := defScope s_copied_words) (by decide +kernel)) (fun _ _ _ _ _ => (pg_tupH rfl (pgs_cons (pg_name (i := 5) sc_copied_words.nd rfl (Or.inl rfl)) (pgs_cons (pg_name (i := 6) sc_copied_words.nd rfl (Or.inl rfl)) pgs_nil)))) (fun _ _ _ _ _ => pts_nil) (fun _ _ _ _ _ => (pe_ifExp (pt_cmpR op_in_seq (pv 5) (pv 4) rfl) (pv 3) (pv 6))))))))), ?_⟩
  refine ⟨_, rfl, _, rfl, m, g, rfl, hm, gok, fun H1 m1 => ?_⟩
  rw [hst]
  refine ⟨_, rfl, rfl, _, rfl, iteF ?_⟩
  refine ⟨_, rfl, _, rfl, _, rfl, _, _, _, rfl, m, g, d, db, wl, ns, rfl, hm.same m1, gok, rfl, m1 _ _ hd, rfl, m1 _ _ hwl, nl, fun pl H2 m2' hpl => ?_⟩
  have m2 := m1.trans m2'
  refine ⟨_, rfl, wl, ns.map V.int, rfl, .inl (.inl (m2 _ _ hwl)), fun D hD => ?_⟩
  have ld := dbt_len (g := g) (db := db) (ns := ns)
  refine lc_it (walk_enum (xs := ns.map V.int)) (fun i H3 => Same H2 H3 ∧ H3 D = some (.lst ((((List.range i).map fun i => if ((i : Nat) : Int) ∈ dbt g db ns then st else (ns[i]?).getD 0)).map V.int))) ⟨Same.new hD, upd_same⟩ (fun i H3 _ h => .inl (.inl (h.1 _ _ (m2 _ _ hwl)))) (fun i z H3 H3' hi ⟨m3, e3⟩ yz => ?_) fun H3 ⟨m3, e3⟩ => k D H3 (m2.trans m3) (Same.none m2 hD) (by rw [List.length_map] at e3; exact e3)
  obtain ⟨t, y1, y2, rfl, ht, rfl, h1, h2⟩ := yz
  cases h1
  dsimp only at h2
  rw [List.getElem?_map] at h2
  obtain ⟨n, hn, rfl⟩ := Option.map_eq_some_iff.mp h2
  have mt := Same.new (o := .tup [.int (i : Nat), .int n]) ht
  have et : (upd H3 t (.tup [.int (i : Nat), .int n])) t = some (.tup [.int (i : Nat), .int n]) := upd_same
  generalize upd H3 t (.tup [.int (i : Nat), .int n]) = H4 at mt et ⊢
  have e4 := mt _ _ e3
  have hi' : i < ns.length := (List.getElem?_eq_some_iff.mp hn).1
  refine ⟨t, _, rfl, et, rfl, _, _, rfl, _, _, rfl, rfl, rfl, yesI ?_⟩
  refine ⟨_, rfl, _, rfl, pl, _, rfl, .inl (.inl (.inl ((m3.trans mt) _ _ hpl))), rfl, flat_ints, ?_⟩
  show ∃ k, V.bl (inV (.int (i : Nat)) ((dbt g db ns).map V.int)) = .bl k ∧ _
  rw [inV_ints]
  have fin : ∀ w : Int, w = (if ((i : Nat) : Int) ∈ dbt g db ns then st else (ns[i]?).getD 0) → ∃ acc, H4 D = some (.lst acc) ∧ acc.length < sizeLine ∧ Same H2 (upd H4 D (.lst (acc ++ [.int w]))) ∧ upd H4 D (.lst (acc ++ [.int w])) D = some (.lst (((List.range (i + 1)).map fun i => if ((i : Nat) : Int) ∈ dbt g db ns then st else (ns[i]?).getD 0).map V.int)) := fun w ew => by
    refine ⟨_, e4, by simp; omega, Same.mut (m3.trans mt) hD, ?_⟩
    rw [upd_same, List.range_succ, List.map_append, List.map_append, ew]
    rfl
  refine ⟨_, rfl, ite2 (fun hy => ?_) fun hn' => ?_⟩
  · exact ⟨_, rfl, fin st (by rw [if_pos (by simpa using hy)])⟩
  · exact ⟨_, rfl, fin n (by rw [if_neg (by simpa using hn'), hn]; rfl)⟩
end
end W73
set_option Elab.async false
set_option linter.all false
set_option maxRecDepth 100000
set_option maxHeartbeats 4000000
namespace W73
open PySem PySem.Spec PyProof.Rows L2
open C8 (Cal Met Mak pe_c pe_mk pe_mt pe_mt0 pe_gc pss_cut tCut)
section
variable {P : Program} {w : World} {K : PySem.W.Frag} {mg : Str → Option Value} {base : Heap}
/-! ### the plain law -/
def Alike (c1 c2 : Cv) : Prop := c1.g = c2.g ∧ c1.fr = c2.fr ∧ c1.sw = c2.sw ∧ c1.tty = c2.tty ∧ c1.keys = c2.keys ∧ (∀ a, spt c1 a 114 = spt c2 a 114) ∧ ∀ a, spt c1 a 119 = spt c2 a 119
theorem step0_alike {c1 c2 : Cv} (h : Alike c1 c2) {se : List Int} {ms : Ms} {r : R0} : step0 c1 se ms r = step0 c2 se ms r := by
  obtain ⟨hg, hf, hs, ht, hk, h1, h2⟩ := h
  have hr : ∀ f p, rdc c1 ms f p = rdc c2 ms f p := fun f p => by unfold rdc; rw [hf]
  cases r with
  | load a b => simp only [step0, h1, hr]
  | store a b => simp only [step0, h2]
  | prim a p l => simp only [step0, hg]
  | _ => rfl
theorem run0_alike {c1 c2 : Cv} (h : Alike c1 c2) {se : List Int} : ∀ {l : List R0} {ms : Ms}, run0 c1 se ms l = run0 c2 se ms l
  | [], _ => rfl
  | r :: l, ms => by
    unfold run0
    rw [step0_alike h]
    split
    · exact run0_alike h
    · rfl
theorem step1_alike {c1 c2 : Cv} (h : Alike c1 c2) {se : List Int} {ms : Ms} {r : Row} : step1 c1 se ms r = step1 c2 se ms r := by
  cases r with
  | r z => exact step0_alike h
  | iff a x y => exact run0_alike h
theorem run1_alike {c1 c2 : Cv} (h : Alike c1 c2) {se : List Int} : ∀ {l : List Row} {ms : Ms}, run1 c1 se ms l = run1 c2 se ms l
  | [], _ => rfl
  | r :: l, ms => by
    unfold run1
    rw [step1_alike h]
    split
    · exact run1_alike h
    · rfl
theorem bareM_alike {c1 c2 : Cv} (h : Alike c1 c2) {rs : List Int} {n f1 f2 p : Int} (e1 : spt c1 n 120 = some (f1, p)) (e2 : spt c2 n 120 = some (f2, p)) (ew : wat c1.fr f1 p = wat c2.fr f2 p) : bareM c1 rs n = bareM c2 rs n := by
  have hm : ms0 c1 rs = ms0 c2 rs := by
    obtain ⟨hg, hf, hs, ht, hk, _⟩ := h
    unfold ms0
    rw [hs, ht, hk]
  have et : tr c1 rs n = tr c2 rs n := by
    unfold tr
    rw [e1, e2]
    dsimp only
    rw [ew, h.1, hm]
    simp only [run1_alike h]
  unfold bareM
  rw [et, h.1, h.2.1]
theorem bareM_stop {c : Cv} {rs : List Int} {n f p : Int} (e : spt c n 120 = some (f, p)) (es : isStop c.g (wat c.fr f p) = true) : ∃ nm ds, bareM c rs n = .inl (.t (.s nm :: ds)) ∧ (nm = "code" ∨ nm = "trap") := by
  unfold bareM tr
  rw [e]
  dsimp only
  unfold isStop at es
  cases hc : c.g.code (wat c.fr f p) with
  | none => exact ⟨_, _, rfl, .inl rfl⟩
  | some z =>
    obtain ⟨x, ns⟩ := z
    rw [hc] at es
    dsimp only at es ⊢
    cases hi : insOf c.g.is x with
    | none => exact ⟨_, _, rfl, .inl rfl⟩
    | some i =>
      rw [hi] at es
      dsimp only at es ⊢
      cases hu : i.us with
      | nil => rw [hu] at es; cases es
      | cons r l =>
        rw [hu] at es
        dsimp only at es
        cases r with
        | iff a x y => cases es
        | r z =>
          cases z with
          | trap x => exact ⟨_, _, rfl, .inr rfl⟩
          | _ => cases es
theorem stops_stop {g : Gd} {st : Int} (h : (stops g).head? = some st) : isStop g st = true := by
  have : st ∈ stops g := List.mem_of_head? h
  unfold stops at this
  exact (List.mem_filter.mp this).2
theorem mem_stops {g : Gd} {n : Int} (h0 : 0 ≤ n) (h1 : n < g.wd) : n ∈ stops g ↔ isStop g n = true := by
  unfold stops
  rw [List.mem_filter]
  constructor
  · exact fun h => h.2
  · intro h
    refine ⟨List.mem_map.mpr ⟨n.toNat, List.mem_range.mpr (by omega), by omega⟩, h⟩
theorem dbt_mem {g : Gd} {db : List Str} {ns : List Int} {i : Nat} (hi : i < ns.length) : ((i : Nat) : Int) ∈ dbt g db ns ↔ isDbt g db ns[i] = true := by
  unfold dbt
  rw [List.mem_map]
  constructor
  · rintro ⟨j, hj, e⟩
    obtain rfl : j = i := by omega
    have := (List.mem_filter.mp hj).2
    rw [List.getElem?_eq_getElem hi] at this
    exact this
  · intro h
    exact ⟨i, List.mem_filter.mpr ⟨List.mem_range.mpr hi, by rw [List.getElem?_eq_getElem hi]; exact h⟩, rfl⟩
theorem cpw_at {g : Gd} {db : List Str} {ns : List Int} {st : Int} {i : Nat} (hi : i < ns.length) : (cpw g db ns st)[i]? = some (if ((i : Nat) : Int) ∈ dbt g db ns then st else ns[i]) := by
  unfold cpw
  rw [List.getElem?_map, List.getElem?_range hi]
  show some (if ((i : Nat) : Int) ∈ dbt g db ns then st else (ns[i]?).getD 0) = _
  rw [List.getElem?_eq_getElem hi]
  rfl
theorem cpw_len {g : Gd} {db : List Str} {ns : List Int} {st : Int} : (cpw g db ns st).length = ns.length := by
  unfold cpw
  simp
end
end W73
set_option Elab.async false
set_option linter.all false
set_option maxRecDepth 100000
set_option maxHeartbeats 4000000
namespace W73
open PySem PySem.Spec PyProof.Rows L2
open C8 (Cal Met Mak pe_c pe_mk pe_mt pe_mt0 pe_gc pss_cut tCut)
section
variable {P : Program} {w : World} {K : PySem.W.Frag} {mg : Str → Option Value} {base : Heap}
/-! ### the law's source of numbers -/
def srcK (c : Addr) (l m t : Int) : List (Key × V) := [(Sum.inr "cells", .ref c), (Sum.inr "left", .int l), (Sum.inr "mixed", .int m), (Sum.inr "turn", .int t)]
def Src (s c : Addr) (H : Hp) : Prop := ∃ (ns : List Int) (l m t : Int), H s = some (.dK (srcK c l m t)) ∧ H c = some (.lst (ns.map V.int)) ∧ (∀ n ∈ ns, 0 ≤ n) ∧ 0 ≤ l ∧ 0 ≤ m ∧ 0 ≤ t
theorem Src.same {s c : Addr} {H H' : Hp} (m : Same H H') : Src s c H → Src s c H' := fun ⟨ns, l, x, t, h, h1, h2⟩ => ⟨ns, l, x, t, m _ _ h, m _ _ h1, h2⟩
theorem while_use {c : TT} {tb tz : TS} {D : Ends} {σ : L2.St} {H : Hp} (Px : L2.St → Hp → Prop) (h : ∀ D' : Ends, (∀ σ H, Px σ H → D'.nx σ H) → tWhile c tb D' σ H) (k : ∀ σ H, Px σ H → tz D σ H) : tSeq (tWhile c tb) tz D σ H := h _ k
def sp_pick : Sp := sp2 fun a b H Q => ∃ s c n, a = .ref s ∧ Src s c H ∧ b = .int n ∧ n ≤ 10000000 ∧ ∀ r H', Src s c H' → Same (Wo [s, c] H) (Wo [s, c] H') → 0 ≤ r → (r < n ∨ r = 0) → Q (.int r) H'
theorem ok_pick (T : Tz P w K mg) : Cal P w K mg base 1 "_law_pick" sp_pick [] := by
  refine mk_law_pick T.toTx len2 fun f cdv A outer s H vs Q E hr h => ?_
  obtain ⟨_, _, rfl, s, c, n, rfl, hs, rfl, hn, k⟩ := h
  have hu := hu_of hr
  have hz := sizeL
  refine ⟨_, (pss_cons (ps_if (pt_cmpR op_lt (pv 1) pe_int (nomark _)) (pss_one (ps_ret pe_int)) pss_nil)
    (pss_cons (ps_set (i := 2) sc_law_pick.nd rfl (Or.inl rfl) (pe_dget hu (pv 0) pe_str (fun _ _ => rfl)))
    (pss_cons (ps_while PassesOwn.never (PW.pt (pw_and (pt_cmpR op_lt (pe_dget hu (pv 0) pe_str (fun _ _ => rfl)) pe_int (nomark _)) (pw_and1 (pt_cmpR op_gt (pe_callB call_len_seq (by rfl) T.b_len PySem.boot_len (pa_cons (pv 2) pa_nil)) pe_int (nomark _))))) (pss_one (ps_dput hu (pv 0) pe_str (pe_bm0 PySem.F.plainAttrs_list PySem.F.slot_list_pop PySem.F.type_list_pop mt_pop (pv 2)) rfl)))
    (pss_cons (ps_set (i := 3) sc_law_pick.nd rfl (Or.inl rfl) (pe_dget hu (pv 0) pe_str (fun _ _ => rfl)))
    (pss_cons (ps_if (pt_cmpR op_gt (pv 3) pe_int (nomark _)) (pss_cons (ps_dput hu (pv 0) pe_str (pe_op op_fdivN (pv 3) (pv 1)) rfl)
    (pss_one (ps_ret (pe_op op_modN (pe_callTy call_int1 (by rfl) T.b_int boot_int (pa_cons (pv 3) pa_nil)) (pv 1))))) pss_nil)
    (pss_cons (ps_dput hu (pv 0) pe_str (pe_op op_add (pe_dget hu (pv 0) pe_str (fun _ _ => rfl)) pe_int) rfl)
    (pss_cons (ps_set (i := 4) sc_law_pick.nd rfl (Or.inl rfl) (pe_dget hu (pv 0) pe_str (fun _ _ => rfl)))
    (pss_cons (ps_set (i := 5) sc_law_pick.nd rfl (Or.inl rfl) (pe_op op_modN (pe_callTy call_int1 (by rfl) T.b_int boot_int (pa_cons (pe_op op_add (pe_dget hu (pv 0) pe_str (fun _ _ => rfl)) (pe_op op_mul (pv 4) pe_int)) pa_nil)) pe_int))
    (pss_cons (ps_set (i := 5) sc_law_pick.nd rfl (Or.inl rfl) (pe_op op_modN (pe_callTy call_int1 (by rfl) T.b_int boot_int (pa_cons (pe_op op_add (pe_op op_mul (pv 5) (pv 5)) (pe_op op_mul (pv 4) pe_int)) pa_nil)) pe_int))
    (pss_cons (ps_if (pt_cmpR op_gt (pv 1) (pe_op op_pow pe_int pe_int) (nomark _)) (pss_one (ps_set (i := 5) sc_law_pick.nd rfl (Or.inl rfl) (pe_op op_pow (pe_callTy call_int1 (by rfl) T.b_int boot_int (pa_cons (pe_op op_add (pe_op op_mul (pv 5) pe_int) (pv 4)) pa_nil)) pe_int))) pss_nil)
    (pss_one (ps_ret (pe_op op_modN (pe_callTy call_int1 (by rfl) T.b_int boot_int (pa_cons (pe_op op_fdivN (pv 5) pe_int) pa_nil)) (pv 1)))))))))))))), ?_⟩
  refine ⟨_, rfl, _, _, rfl, rfl, _, rfl, ?_⟩
  refine ite2 (fun hlt => ?_) fun hge => ?_
  · exact k 0 H hs (Same.refl _) (by omega) (.inr rfl)
  have hge : 2 ≤ n := by simpa using hge
  obtain ⟨ns, l, m, t, h1, h2, hp, l0, m0, t0⟩ := hs
  have nsc : s ≠ c := fun z => by rw [z, h2] at h1; cases h1
  refine ⟨_, rfl, s, .ref c, rfl, .inl ⟨_, Sum.inr "cells", .inl h1, rfl, rfl⟩, ?_⟩
  have put : ∀ {H' : Hp} {o : HO} {b : Addr}, b ∈ [s, c] → Same (Wo [s, c] H) (Wo [s, c] H') → Same (Wo [s, c] H) (Wo [s, c] (upd H' b o)) := fun hb mm => by
    rw [Wo.put hb]
    exact mm
  refine while_use (fun σ H' => σ = [some (.ref s), some (.int n), some (.ref c), none, none, none] ∧ ∃ (ns : List Int) (l : Int), H' s = some (.dK (srcK c l m t)) ∧ H' c = some (.lst (ns.map V.int)) ∧ (∀ n ∈ ns, 0 ≤ n) ∧ 0 ≤ l ∧ Same (Wo [s, c] H) (Wo [s, c] H')) (fun D' hD' => ?_) fun σ H' ⟨eσ, ns, l, h1, h2, hp, l0, mm⟩ => ?_
  · refine ⟨fun j σ H' => σ = [some (.ref s), some (.int n), some (.ref c), none, none, none] ∧ ∃ (ns : List Int) (l : Int), j = ns.length ∧ H' s = some (.dK (srcK c l m t)) ∧ H' c = some (.lst (ns.map V.int)) ∧ (∀ n ∈ ns, 0 ≤ n) ∧ 0 ≤ l ∧ Same (Wo [s, c] H) (Wo [s, c] H'), ⟨_, rfl, ns, l, rfl, h1, h2, hp, l0, Same.refl _⟩, fun j σ H' ⟨eσ, ns, l, ej, h1, h2, hp, l0, mm⟩ => ?_⟩
    subst eσ ej
    refine ⟨_, rfl, s, .int l, rfl, .inl ⟨_, Sum.inr "left", .inl h1, rfl, rfl⟩, _, _, rfl, rfl, _, rfl, ?_⟩
    refine ite2 (fun hl => ?_) fun hl => ?_
    · refine ⟨_, rfl, c, _, rfl, .inl (.inl (.inl h2)), _, _, rfl, rfl, _, rfl, ?_⟩
      refine ite2 (fun hc => ?_) fun hc => ?_
      · have hn0 : 0 < ns.length := by simpa using hc
        have hne : ns ≠ [] := by intro z; simp [z] at hn0
        refine ⟨fun σ H'' => σ = [some (.ref s), some (.int n), some (.ref c), none, none, none] ∧ ∃ (ns' : List Int) (l : Int), ns'.length < ns.length ∧ H'' s = some (.dK (srcK c l m t)) ∧ H'' c = some (.lst (ns'.map V.int)) ∧ (∀ n ∈ ns', 0 ≤ n) ∧ 0 ≤ l ∧ Same (Wo [s, c] H) (Wo [s, c] H''), fun σ' H'' ⟨a, ns', l', b1, b2⟩ => ⟨_, b1, a, ns', l', rfl, b2⟩, ?_⟩
        refine ⟨_, rfl, .inl ⟨rfl, _, .inl (.inl h2)⟩, c, _, .int (ns.getLast hne), rfl, rfl, h2, ?_, ?_⟩
        · rw [List.length_map, List.getElem?_map, List.getLast_eq_getElem, List.getElem?_eq_getElem (by omega)]
          rfl
        · refine ⟨_, rfl, s, _, rfl, DPut.k (k := Sum.inr "left") ((upd_ne nsc).trans h1) (by show 4 < sizeLine; omega), rfl, ns.dropLast, ns.getLast hne, by rw [List.length_dropLast]; omega, upd_same, (upd_ne nsc.symm).trans (upd_same.trans (by rw [List.map_dropLast])), fun x hx => hp x ((List.dropLast_sublist ns).subset hx), hp _ (List.getLast_mem hne), put (by simp) (put (by simp) mm)⟩
      · exact hD' _ _ ⟨rfl, ns, l, h1, h2, hp, l0, mm⟩
    · exact hD' _ _ ⟨rfl, ns, l, h1, h2, hp, l0, mm⟩
  subst eσ
  refine ⟨_, rfl, s, .int l, rfl, .inl ⟨_, Sum.inr "left", .inl h1, rfl, rfl⟩, ?_⟩
  refine ⟨_, rfl, _, _, rfl, rfl, _, rfl, ?_⟩
  refine ite2 (fun hl => ?_) fun hl => ?_
  · have hl : 1 < l := by simpa using hl
    refine ⟨_, rfl, _, rfl, _, _, rfl, rfl, ⟨by omega, by omega⟩, _, rfl, s, _, rfl, DPut.k (k := Sum.inr "left") h1 (by show 4 < sizeLine; omega), ?_⟩
    refine ⟨_, rfl, .inl ⟨_, rfl, _, rfl, _, _, rfl, rfl, by omega, ?_⟩⟩
    exact k _ _ ⟨ns, l.fdiv n, m, t, upd_same, (upd_ne nsc.symm).trans h2, hp, Int.fdiv_nonneg l0 (by omega), m0, t0⟩ (put (by simp) mm) (Int.fmod_nonneg_of_pos _ (by omega)) (.inl (Int.fmod_lt_of_pos _ (by omega)))
  · refine ⟨_, rfl, s, .int t, rfl, .inl ⟨_, Sum.inr "turn", .inl h1, rfl, rfl⟩, _, _, rfl, rfl, _, rfl, s, _, rfl, DPut.k (k := Sum.inr "turn") h1 (by show 4 < sizeLine; omega), ?_⟩
    have h3 : (upd H' s (.dK (putK (srcK c l m t) (Sum.inr "turn") (.int (t + 1))))) s = some (.dK (srcK c l m (t + 1))) := upd_same
    have h4 : (upd H' s (.dK (putK (srcK c l m t) (Sum.inr "turn") (.int (t + 1))))) c = some (.lst (ns.map V.int)) := (upd_ne nsc.symm).trans h2
    have m3 : Same (Wo [s, c] H) (Wo [s, c] (upd H' s (.dK (putK (srcK c l m t) (Sum.inr "turn") (.int (t + 1)))))) := put (by simp) mm
    generalize upd H' s (.dK (putK (srcK c l m t) (Sum.inr "turn") (.int (t + 1)))) = H3 at h3 h4 m3 ⊢
    refine ⟨_, rfl, s, .int (t + 1), rfl, .inl ⟨_, Sum.inr "turn", .inl h3, rfl, rfl⟩, ?_⟩
    refine ⟨_, rfl, s, .int m, rfl, .inl ⟨_, Sum.inr "mixed", .inl h3, rfl, rfl⟩, _, rfl, _, _, rfl, rfl, .inr ⟨by omega, by omega⟩, _, _, rfl, rfl, .inl ⟨_, rfl, _, _, rfl, rfl, by omega, ?_⟩⟩
    have b1 := Int.fmod_nonneg_of_pos (m + (t + 1) * 104729) (b := 998244353) (by omega)
    have b2 := Int.fmod_lt_of_pos (m + (t + 1) * 104729) (b := 998244353) (by omega)
    refine ⟨_, rfl, _, rfl, _, _, rfl, rfl, .inl ⟨by omega, by omega⟩, _, rfl, _, _, rfl, rfl, .inr ⟨by omega, by omega⟩, _, _, rfl, rfl, .inl ⟨_, rfl, _, _, rfl, rfl, by omega, ?_⟩⟩
    refine ⟨_, rfl, _, _, rfl, rfl, ⟨by omega, by omega, by decide⟩, _, _, rfl, rfl, _, rfl, iN (decide_eq_false (by show ¬ ((10 : Int) ^ 7 < n); omega)) ?_⟩
    refine ⟨_, rfl, _, _, rfl, rfl, ⟨by omega, by omega⟩, .inl ⟨_, rfl, _, rfl, _, _, rfl, rfl, by omega, ?_⟩⟩
    exact k _ _ ⟨ns, l, m, t + 1, h3, h4, hp, l0, m0, by omega⟩ m3 (Int.fmod_nonneg_of_pos _ (by omega)) (.inl (Int.fmod_lt_of_pos _ (by omega)))
end
end W73
set_option Elab.async false
set_option linter.all false
set_option maxRecDepth 100000
set_option maxHeartbeats 4000000
namespace W73
open PySem PySem.Spec PyProof.Rows L2
open C8 (Cal Met Mak pe_c pe_mk pe_mt pe_mt0 pe_gc pss_cut tCut)
section
variable {P : Program} {w : World} {K : PySem.W.Frag} {mg : Str → Option Value} {base : Heap}
def rSubI : R2 := rI0 fun i j => .int (i - j)
def lenQ (K : PySem.W.Frag) : List V → Hp → VK → Prop := fun xs H Q => ∃ p ys, xs = [.ref p] ∧ (SqL K H p ys ∨ SqT K H p ys) ∧ Q (.int ys.length) H
def sp_source (K : PySem.W.Frag) : Sp := sp1 fun a H Q => ∃ p, ∃ ns : List Int, a = .ref p ∧ SqL K H p (ns.map V.int) ∧ ns.length ≤ 1000000 ∧ ∀ s c H', Same H H' → Src s c (Nw H H') → Q (.ref s) H'
theorem ok_source (T : Tz P w K mg) : Cal P w K mg base 1 "_law_source" (sp_source K) [] := by
  refine mk_law_source T.toTx len1 fun f cdv A outer s H vs Q E hr h => ?_
  obtain ⟨_, rfl, p, ns, rfl, hp, hl, k⟩ := h
  have hu := hu_of hr
  have hz := sizeL
  refine ⟨_, (pss_cons (ps_set (i := 1) sc_law_source.nd rfl (Or.inl rfl) pe_int)
    (pss_cons (ps_for PassesOwn.never rfl (pi_list (pv 0)) (pg_name (i := 2) sc_law_source.nd rfl (Or.inl rfl)) (pss_one (ps_set (i := 1) sc_law_source.nd rfl (Or.inl rfl) (pe_op op_modN (pe_callTy call_int1 (by rfl) T.b_int boot_int (pa_cons (pe_op op_add (pe_op op_add (pe_op op_mul (pv 1) pe_int) (pe_op op_mul (pv 2) pe_int)) pe_int) pa_nil)) pe_int))))
    (pss_cons (ps_set (i := 3) sc_law_source.nd rfl (Or.inr rfl) (pe_lc  (own := [("_law_cell", 2)]) (g := gName 2) (tt := tYes) rfl sc_law_source.nd (pi_list (pv 0)) (blkOk_by (N := ["_law_script", "_law_mixed", "_law_cell", "_law_digits", "_law_k"]) (sc := defScope s_law_source) (by decide +kernel)) (fun _ _ _ _ _ => (pg_name (i := 2) sc_law_source.nd rfl (Or.inl rfl))) (fun _ _ _ _ _ => pts_nil) (fun _ _ _ _ _ => (pe_callB call_abs (by rfl) T.b_abs boot_abs (pa_cons (pv 2) pa_nil)))))
    (pss_one (ps_ret (pe_disp (pps_cons pe_str (pe_lc (te := tOp rIxLH (tVar 3) (tOp rSubI (tOp rSubI (tCB (lenQ K) (tCons (tVar 3) tNil)) (tC (.int 1))) (tVar 4))) (own := [("_law_k", 4)]) (g := gName 4) (tt := tYes) rfl sc_law_source.nd (pi_range1 (by rfl) T.b_range (pa_cons (pe_callB call_len_seq (by rfl) T.b_len PySem.boot_len (pa_cons (pv 3) pa_nil)) pa_nil)) (blkOk_by (N := ["_law_script", "_law_mixed", "_law_cell", "_law_digits", "_law_k"]) (sc := defScope s_law_source) (by decide +kernel)) (fun _ _ _ _ _ => (pg_name (i := 4) sc_law_source.nd rfl (Or.inl rfl))) (fun _ _ _ _ _ => pts_nil) (fun _ _ _ _ _ => (pe_ix ix_listH (pv 3) (pe_op op_sub (pe_op op_sub (pe_callB call_len_seq (by rfl) T.b_len PySem.boot_len (pa_cons (pv 3) pa_nil)) pe_int) (pv 4)) (fun _ _ => rfl)))) (pps_cons pe_str pe_int (pps_cons pe_str (pv 1) (pps_cons pe_str pe_int pps_nil)))) (by rfl) (by rfl) (fun z => by cases z) (by decide))))))), ?_⟩
  refine ⟨_, rfl, p, rfl, ⟨_, hp⟩, ?_⟩
  refine for_list (xs := ns.map V.int) (fun i σ H' => ∃ (m : Int) (u : Option V), σ = [some (.ref p), some (.int m), u, none, none] ∧ 0 ≤ m ∧ H' = H) ⟨11, _, rfl, by omega, rfl⟩ (fun i σ H' _ ⟨_, _, _, _, e⟩ => by rw [e]; exact hp) ?_ ?_
  · rintro i x σ H' hx ⟨m, u, rfl, m0, rfl⟩
    rw [List.getElem?_map] at hx
    obtain ⟨n, hn, rfl⟩ := Option.map_eq_some_iff.mp hx
    exact ⟨_, rfl, _, _, rfl, rfl, .inr ⟨by omega, by omega⟩, _, rfl, _, _, rfl, rfl, .inr ⟨by omega, by omega⟩, _, _, rfl, rfl, _, _, rfl, rfl, .inl ⟨_, rfl, _, _, rfl, rfl, by omega, _, _, rfl, Int.fmod_nonneg_of_pos _ (by omega), rfl⟩⟩
  · rintro σ H' ⟨m, u, rfl, m0, rfl⟩
    refine ⟨_, rfl, p, rfl, ⟨_, hp⟩, fun D hD => ?_⟩
    refine lc_it (walk_list (xs := ns.map V.int)) (fun i H1 => Same H' H1 ∧ H1 D = some (.lst (((ns.take i).map fun i => if i < 0 then -i else i).map V.int))) ⟨Same.new hD, upd_same⟩ (fun i H1 _ h => (show Same H' H1 from h.1).seq hp) (fun i x H1 H2 hi ⟨m1, e1⟩ y => ?_) fun H1 ⟨m1, e1⟩ => ?_
    · obtain ⟨rfl, hy⟩ := y
      rw [List.getElem?_map] at hy
      obtain ⟨n, hn, rfl⟩ := Option.map_eq_some_iff.mp hy
      rw [List.length_map] at hi
      refine ⟨rfl, yesI ⟨_, rfl, _, rfl, _, e1, by simp; omega, Same.mut m1 hD, ?_⟩⟩
      rw [upd_same, List.take_succ, hn]
      simp
    · rw [List.length_map, List.take_length] at e1
      have m1' : Same H' H1 := m1
      have ll : (ns.map fun i => if i < 0 then -i else i).length = ns.length := List.length_map ..
      have pos : ∀ x ∈ ns.map (fun i : Int => if i < 0 then -i else i), 0 ≤ x := fun x hx => by
        obtain ⟨y, _, rfl⟩ := List.mem_map.mp hx
        split <;> omega
      generalize ns.map (fun i : Int => if i < 0 then -i else i) = ds at e1 ll pos
      intro P hP
      have mP : Same H1 (upd H1 P (.dK [])) := Same.new hP
      have eP : (upd H1 P (.dK [])) P = some (.dK []) := upd_same
      generalize upd H1 P (.dK []) = H2 at mP eP ⊢
      have e2 := mP _ _ e1
      refine ⟨_, rfl, D, _, rfl, .inl (.inl (.inl e2)), _, rfl, by rw [List.length_map]; omega, by rw [List.length_map]; omega, fun C hC => ?_⟩
      refine lc_it (walk_range (lo := 0)) (fun i H3 => Same H2 H3 ∧ H3 C = some (.lst ((ds.reverse.take i).map V.int))) ⟨Same.new hC, upd_same⟩ (fun _ _ _ _ => trivial) (fun i x H3 H4 hi ⟨m3, e3⟩ y => ?_) fun H3 ⟨m3, e3⟩ => ?_
      · obtain ⟨rfl, rfl⟩ := y
        dsimp only
        have hi' : i < ds.length := by simpa using hi
        have ed := m3 _ _ e2
        have hr : ds.reverse[i]? = some (ds[ds.length - 1 - i]'(by omega)) := by
          rw [List.getElem?_reverse hi', List.getElem?_eq_getElem (by omega)]
        refine ⟨rfl, yesI ⟨_, rfl, _, rfl, D, _, rfl, .inl (.inl (.inl ed)), _, _, rfl, rfl, _, rfl, _, _, rfl, rfl, D, _, _, .int (ds[ds.length - 1 - i]'(by omega)), rfl, rfl, ed, ?_, _, e3, by simp; omega, Same.mut m3 hC, ?_⟩⟩
        · rw [show (((ds.map V.int).length : Nat) : Int) - 1 - (0 + (i : Nat)) = ((ds.length - 1 - i : Nat) : Int) by rw [List.length_map]; omega]
          exact atI_nat (by rw [List.getElem?_map, List.getElem?_eq_getElem (by omega)]; rfl)
        · rw [upd_same, List.take_succ, hr]
          simp
      · have e3' : H3 C = some (.lst (ds.reverse.map V.int)) := by
          rw [e3, show ((ds.map V.int).length : Nat) = ds.reverse.length by simp]
          rw [show (((ds.reverse.length : Nat) : Int)).toNat = ds.reverse.length by omega, List.take_length]
        have nCP : C ≠ P := fun z => by rw [z, m3 _ _ eP] at e3'; cases e3'
        refine ⟨_, rfl, m3 _ _ eP, [(Sum.inr "cells", .ref C), (Sum.inr "left", .int 1), (Sum.inr "mixed", .int m), (Sum.inr "turn", .int 0)], rfl, by show 4 ≤ 15; decide, ?_⟩
        have mC : H' C = none := by
          cases q : H' C with
          | none => rfl
          | some u => have := mP _ _ (m1 _ _ q); rw [hC] at this; cases this
        have mP' : H' P = none := by
          cases q : H' P with
          | none => rfl
          | some u => have := m1 _ _ q; rw [hP] at this; cases this
        exact k P C _ (Same.mut (((m1.trans mP).trans m3)) mP') ⟨ds.reverse, 1, m, 0, Nw.at mP' upd_same, Nw.at mC ((upd_ne nCP).trans e3'), fun x hx => pos x (List.mem_reverse.mp hx), by omega, m0, by omega⟩
end
end W73
set_option Elab.async false
set_option linter.all false
set_option maxRecDepth 100000
set_option maxHeartbeats 4000000
namespace W73
open PySem PySem.Spec PyProof.Rows L2
open C8 (Cal Met Mak pe_c pe_mk pe_mt pe_mt0 pe_gc pss_cut tCut)
section
variable {P : Program} {w : World} {K : PySem.W.Frag} {mg : Str → Option Value} {base : Heap}
theorem Src.wo {s c x : Addr} {H : Hp} {u : HO} (h : Src s c H) (e : H x = some u) (n1 : ∀ kv, u ≠ .dK kv) (n2 : ∀ xs, u ≠ .lst xs) : Wo [s, c] H x = some u := by
  obtain ⟨ns, l, m, t, h1, h2, _⟩ := h
  refine Wo.at e ?_
  simp only [List.mem_cons, List.not_mem_nil, or_false, not_or]
  exact ⟨ne_kind e h1 fun z => n1 _ z, ne_kind e h2 fun z => n2 _ z⟩
theorem Src.tps {s c : Addr} {H H' : Hp} (h : Src s c H) (m : Same (Wo [s, c] H) (Wo [s, c] H')) : Tps H H' := fun b xs e => Wo.to _ _ (m _ _ (h.wo e (by simp) (by simp)))
/-- a new place isn't the source's -/
theorem Src.new {s c x : Addr} {H : Hp} (h : Src s c H) (e : H x = none) : x ∉ [s, c] := by
  obtain ⟨ns, l, m, t, h1, h2, _⟩ := h
  simp only [List.mem_cons, List.not_mem_nil, or_false, not_or]
  exact ⟨fun z => (by rw [z, h1] at e; cases e), fun z => (by rw [z, h2] at e; cases e)⟩
theorem Src.put {s c x : Addr} {H : Hp} {o : HO} (h : Src s c H) (e : x ∉ [s, c]) : Src s c (upd H x o) := by
  obtain ⟨ns, l, m, t, h1, h2, q⟩ := h
  simp only [List.mem_cons, List.not_mem_nil, or_false, not_or] at e
  exact ⟨ns, l, m, t, (upd_ne fun z => e.1 z.symm).trans h1, (upd_ne fun z => e.2 z.symm).trans h2, q⟩
def sp_ref : Sp := sp2 fun a b H Q => ∃ s c, ∃ n : Nat, a = .ref s ∧ Src s c H ∧ b = .int n ∧ n ≤ 3 ∧ ∀ r v H', Src s c H' → Same (Wo [s, c] H) (Wo [s, c] H') → Rf.ok n r = true → TD' H' r.d v → Q v H'
theorem ok_ref (T : Tz P w K mg) : Cal P w K mg base 2 "_law_ref" sp_ref [] := by
  have c_law_pick : Cal P w K mg base 1 "_law_pick" sp_pick [] := ok_pick T
  refine mk_law_ref T.toTx len2 fun f cdv A outer s H vs Q E hr h => ?_
  obtain ⟨_, _, rfl, s, c, n, rfl, hs, rfl, hn, k⟩ := h
  have hu := hu_of hr
  have hz := sizeL
  refine ⟨_, (pss_cons (ps_set (i := 2) sc_law_ref.nd rfl (Or.inl rfl) (pe_op op_cat (pe_op op_rep (pe_lc  (own := [("_law_k", 3)]) (g := gName 3) (tt := tYes) rfl sc_law_ref.nd (pi_range1 (by rfl) T.b_range (pa_cons (pv 1) pa_nil)) (blkOk_by (N := ["_law_source_here", "_law_operands", "_law_some", "_law_k"]) (sc := defScope s_law_ref) (by decide +kernel)) (fun _ _ _ _ _ => (pg_name (i := 3) sc_law_ref.nd rfl (Or.inl rfl))) (fun _ _ _ _ _ => pts_nil) (fun _ _ _ _ _ => (pe_tup (pa_cons pe_str (pa_cons (pv 3) pa_nil))))) pe_int) (pe_lst (pa_cons (pe_tup (pa_cons pe_str (pa_cons (pe_c c_law_pick hr (by first | decide | omega) rfl (pa_cons (pv 0) (pa_cons pe_int pa_nil))) pa_nil))) pa_nil))))
    (pss_one (ps_ret (pe_ix ix_list (pv 2) (pe_c c_law_pick hr (by first | decide | omega) rfl (pa_cons (pv 0) (pa_cons (pe_callB call_len_seq (by rfl) T.b_len PySem.boot_len (pa_cons (pv 2) pa_nil)) pa_nil))) (fun _ _ => rfl))))), ?_⟩
  refine ⟨_, rfl, _, rfl, by omega, by omega, fun D hD => ?_⟩
  refine lc_it (walk_range (lo := 0)) (fun i H3 => Same H H3 ∧ ∃ vs : List V, H3 D = some (.lst vs) ∧ vs.length = i ∧ ∀ v ∈ vs, ∃ r, Rf.ok n r = true ∧ TD' H3 r.d v) ⟨Same.new hD, [], upd_same, rfl, by simp⟩ (fun _ _ _ _ => trivial) (fun i x H3 H4 hi ⟨m3, vs, e3, l3, o3⟩ y => ?_) fun H3 ⟨m3, vs, e3, l3, o3⟩ => ?_
  · obtain ⟨rfl, rfl⟩ := y
    dsimp only
    refine ⟨rfl, yesI ⟨_, rfl, by show 2 ≤ sizeLine; decide, fun t ht => ?_⟩⟩
    have mt := Same.new (o := .tup [.str "op", .int (0 + (i : Nat))]) ht
    have nt : t ≠ D := fun z => by rw [z, e3] at ht; cases ht
    have tp : Tps H4 (upd (upd H4 t (.tup [.str "op", .int (0 + (i : Nat))])) D (.lst (vs ++ [.ref t]))) := fun b xs e => (upd_ne fun z => by rw [z, e3] at e; cases e).trans (mt _ _ e)
    refine ⟨_, mt _ _ e3, by omega, Same.mut (m3.trans mt) hD, _, upd_same, by simp [l3], fun v hv => ?_⟩
    rcases List.mem_append.mp hv with hv | hv
    · obtain ⟨r, a, b⟩ := o3 v hv
      exact ⟨r, a, b.mono tp⟩
    · simp at hv
      subst hv
      refine ⟨.op i, by simpa [Rf.ok] using hi, .t ((upd_ne nt).trans upd_same) (.cons (.s _) (.cons ?_ .nil))⟩
      rw [show (0 : Int) + (i : Nat) = (i : Nat) by omega]
      exact .i _
  · have l3' : vs.length = n := by omega
    have hs3 := hs.same m3
    refine ⟨D, 2, vs, rfl, rfl, e3, by omega, by omega, by rw [l3']; show n * 2 ≤ sizeLine; omega, fun p hp => ?_⟩
    have m4 := Same.new (o := .lst (List.replicate (2 : Int).toNat vs).flatten) hp
    have e4 : (upd H3 p (.lst (List.replicate (2 : Int).toNat vs).flatten)) p = some (.lst (List.replicate (2 : Int).toNat vs).flatten) := upd_same
    generalize upd H3 p (.lst (List.replicate (2 : Int).toNat vs).flatten) = H4 at m4 e4 ⊢
    have ef : (List.replicate (2 : Int).toNat vs).flatten = vs ++ (vs ++ []) := rfl
    rw [ef] at e4
    have hs4 := hs3.same m4
    refine ⟨_, rfl, _, _, rfl, s, c, 4, rfl, hs4, rfl, by omega, fun r H5 s5 m5 r0 rr => ?_⟩
    have e5 : H5 p = some (.lst (vs ++ (vs ++ []))) := Wo.to _ _ (m5 _ _ (Wo.at e4 (hs3.new hp)))
    have tp5 := hs4.tps m5
    refine ⟨by show 2 ≤ sizeLine; decide, fun t ht => ?_⟩
    have m6 := Same.new (o := .tup [.str "tmp", .int r]) ht
    have e6 : (upd H5 t (.tup [.str "tmp", .int r])) t = some (.tup [.str "tmp", .int r]) := upd_same
    generalize upd H5 t (.tup [.str "tmp", .int r]) = H6 at m6 e6 ⊢
    refine ⟨by show 1 ≤ sizeLine; decide, fun L hL => ?_⟩
    have m7 := Same.new (o := .lst [.ref t]) hL
    have e7 : (upd H6 L (.lst [.ref t])) L = some (.lst [.ref t]) := upd_same
    generalize upd H6 L (.lst [.ref t]) = H7 at m7 e7 ⊢
    have m57 := m6.trans m7
    refine ⟨p, L, _, _, rfl, rfl, m57 _ _ e5, e7, by simp; omega, fun M hM => ?_⟩
    have m8 := Same.new (o := .lst ((vs ++ (vs ++ [])) ++ [.ref t])) hM
    have e8 : (upd H7 M (.lst ((vs ++ (vs ++ [])) ++ [.ref t]))) M = some (.lst ((vs ++ (vs ++ [])) ++ [.ref t])) := upd_same
    generalize upd H7 M (.lst ((vs ++ (vs ++ [])) ++ [.ref t])) = H8 at m8 e8 ⊢
    have m58 := m57.trans m8
    have s8 := s5.same m58
    have nM : M ∉ [s, c] := (s5.same m57).new hM
    have oall : ∀ v ∈ (vs ++ (vs ++ [])) ++ [V.ref t], ∃ r, Rf.ok n r = true ∧ TD' H8 r.d v := fun v hv => by
      have : v ∈ vs ∨ v = .ref t := by simpa [or_assoc] using hv
      rcases this with hv | rfl
      · obtain ⟨r, a, b⟩ := o3 v hv
        exact ⟨r, a, ((b.mono (.of m4)).mono tp5).mono (.of m58)⟩
      · obtain ⟨j, rfl⟩ := Int.eq_ofNat_of_zero_le r0
        exact ⟨.tmp j, by simp [Rf.ok]; omega, .t (m8 _ _ (m7 _ _ e6)) (.cons (.s _) (.cons (.i _) .nil))⟩
    have lall : ((vs ++ (vs ++ [])) ++ [V.ref t]).length = 2 * n + 1 := by simp; omega
    generalize (vs ++ (vs ++ [])) ++ [V.ref t] = all at e8 oall lall
    refine ⟨_, rfl, _, rfl, _, rfl, M, _, rfl, .inl (.inl (.inl e8)), _, _, rfl, s, c, _, rfl, s8, rfl, by omega, fun r9 H9 s9 m9 r90 rr9 => ?_⟩
    have e9 := Wo.to _ _ (m9 _ _ (Wo.at e8 nM))
    obtain ⟨j, rfl⟩ := Int.eq_ofNat_of_zero_le r90
    have hj : j < all.length := by omega
    obtain ⟨r, a, b⟩ := oall _ (List.getElem_mem hj)
    refine ⟨M, _, _, all[j], rfl, rfl, .inl (.inl e9), atI_nat (List.getElem?_eq_getElem hj), k r _ H9 s9 ?_ a (b.mono (s8.tps m9))⟩
    exact (((Wo.mono (m3.trans m4)).trans m5).trans (Wo.mono m58)).trans m9
end
end W73
set_option Elab.async false
set_option linter.all false
set_option maxRecDepth 100000
set_option maxHeartbeats 4000000
namespace W73
open PySem PySem.Spec PyProof.Rows L2
open C8 (Cal Met Mak pe_c pe_mk pe_mt pe_mt0 pe_gc pss_cut tCut)
section
variable {P : Program} {w : World} {K : PySem.W.Frag} {mg : Str → Option Value} {base : Heap}
/-! ### rows that are drawn: how much they weigh -/
def sw (x : Str) : Nat := (reprText x).length
theorem wt_s {x : Str} : (D.s x).wt = sw x := by unfold D.wt sw; rfl
theorem wt_t {l : List D} : (D.t l).wt = 5 + D.wts l := by rw [D.wt]
theorem wts_cons {d : D} {l : List D} : D.wts (d :: l) = (d.wt + 2) + D.wts l := by rw [D.wts]
theorem wts_nil : D.wts [] = 0 := by rw [D.wts]
theorem all_sw : ∀ x ∈ (["op", "tmp", "if", "move", "prim", "load", "store", "goto", "get", "put", "in", "out", "trap", "keys", "tty", "sum", "less", "unit", "call", "oops", "mode", "table", "handler", "enabled", "timer", "cause", "back", "was", "fault"] : List Str), sw x ≤ 20 := by decide +kernel
theorem int_wt : ∀ k : Nat, k < 4 → (D.i (k : Int)).wt ≤ 5 := by
  intro k hk
  match k, hk with
  | 0, _ => decide +kernel
  | 1, _ => decide +kernel
  | 2, _ => decide +kernel
  | 3, _ => decide +kernel
  | k + 4, h => omega
theorem Rf.wt {n : Nat} {r : Rf} (hn : n ≤ 3) (h : r.ok n = true) : r.d.wt ≤ 40 := by
  cases r with
  | op k =>
    have h : k < n := by simpa [Rf.ok] using h
    have h1 := all_sw "op" (by simp)
    have h2 := int_wt k (by omega)
    unfold Rf.d
    rw [wt_t, wts_cons, wts_cons, wts_nil, wt_s]
    omega
  | tmp k =>
    have h : k < 4 := by simpa [Rf.ok] using h
    have h1 := all_sw "tmp" (by simp)
    have h2 := int_wt k h
    unfold Rf.d
    rw [wt_t, wts_cons, wts_cons, wts_nil, wt_s]
    omega
theorem spec_sw {x : Str} (h : x ∈ kSPECS) : sw x ≤ 20 := by
  have : ∀ x ∈ kSPECS, sw x ≤ 20 := by decide +kernel
  exact this x h
theorem caus_sw {x : Str} (h : x ∈ kCAUSES) : sw x ≤ 20 := by
  have : ∀ x ∈ kCAUSES, sw x ≤ 20 := by decide +kernel
  exact this x h
theorem prim_sw {x : Str} {k : Nat} (h : kPRIMS.lookup x = some k) : sw x ≤ 20 ∧ k ≤ 2 := by
  have t : ∀ p ∈ kPRIMS, sw p.1 ≤ 20 ∧ p.2 ≤ 2 := by decide +kernel
  have q := t (x, k) (PySem.mem_of_lookup h)
  exact q
theorem refs_wt {n : Nat} (hn : n ≤ 3) : ∀ {l : List Rf}, (∀ r ∈ l, r.ok n = true) → D.wts (l.map Rf.d) ≤ 42 * l.length
  | [], _ => by rw [List.map_nil, wts_nil]; exact Nat.zero_le _
  | r :: l, h => by
    have h1 := Rf.wt hn (h r (List.mem_cons_self ..))
    have h2 := refs_wt hn (l := l) fun x hx => h x (List.mem_cons_of_mem _ hx)
    rw [List.map_cons, wts_cons, List.length_cons]
    omega
theorem R0.wt {n : Nat} {r : R0} (hn : n ≤ 3) (h : r.ok n = true) : r.d.wt ≤ 300 := by
  unfold R0.d
  rw [wt_t]
  cases r <;> simp only [R0.ok, Bool.and_eq_true, decide_eq_true_eq, List.all_eq_true] at h <;> simp only [R0.ds, wts_cons, wts_nil, wt_s, wt_t]
  case move a b => have := Rf.wt hn h.1; have := Rf.wt hn h.2; have := all_sw "move" (by simp); omega
  case prim a p l => have := Rf.wt hn h.1.1; have := prim_sw h.1.2; have := refs_wt hn h.2; have := all_sw "prim" (by simp); omega
  case load a b => have := Rf.wt hn h.1; have := Rf.wt hn h.2; have := all_sw "load" (by simp); omega
  case store a b => have := Rf.wt hn h.1; have := Rf.wt hn h.2; have := all_sw "store" (by simp); omega
  case goto a => have := Rf.wt hn h; have := all_sw "goto" (by simp); omega
  case get a x => have := Rf.wt hn h.1; have := spec_sw h.2; have := all_sw "get" (by simp); omega
  case put x a => have := Rf.wt hn h.2; have := spec_sw h.1; have := all_sw "put" (by simp); omega
  case inn a => have := Rf.wt hn h; have := all_sw "in" (by simp); have := all_sw "keys" (by simp); omega
  case out a => have := Rf.wt hn h; have := all_sw "out" (by simp); have := all_sw "tty" (by simp); omega
  case trap x => have := caus_sw h; have := all_sw "trap" (by simp); omega
theorem r0s_wt {n : Nat} (hn : n ≤ 3) : ∀ {l : List R0}, (∀ r ∈ l, r.ok n = true) → D.wts (l.map R0.d) ≤ 302 * l.length
  | [], _ => by rw [List.map_nil, wts_nil]; exact Nat.zero_le _
  | r :: l, h => by
    have h1 := R0.wt hn (h r (List.mem_cons_self ..))
    have h2 := r0s_wt hn (l := l) fun x hx => h x (List.mem_cons_of_mem _ hx)
    rw [List.map_cons, wts_cons, List.length_cons]
    omega
theorem Row.wt {n m : Nat} {r : Row} (hn : n ≤ 3) (h : r.ok n m = true) : r.d.wt ≤ 6000 := by
  cases r with
  | r z => exact Nat.le_trans (R0.wt hn h) (by omega)
  | iff a x y =>
    simp only [Row.ok, Bool.and_eq_true, decide_eq_true_eq, List.all_eq_true] at h
    obtain ⟨⟨⟨⟨⟨h0, h1⟩, h2⟩, h3⟩, h4⟩, h5⟩ := h
    have q1 := Rf.wt hn h1
    have q2 := r0s_wt hn h3
    have q3 := r0s_wt hn h5
    have q4 := all_sw "if" (by simp)
    unfold Row.d
    simp only [Row.ds, wts_cons, wts_nil, wt_s, wt_t]
    omega
theorem rows_wt {n m : Nat} (hn : n ≤ 3) : ∀ {l : List Row}, (∀ r ∈ l, r.ok n m = true) → D.wts (l.map Row.d) ≤ 6002 * l.length
  | [], _ => by rw [List.map_nil, wts_nil]; exact Nat.zero_le _
  | r :: l, h => by
    have h1 := Row.wt hn (h r (List.mem_cons_self ..))
    have h2 := rows_wt hn (l := l) fun x hx => h x (List.mem_cons_of_mem _ hx)
    rw [List.map_cons, wts_cons, List.length_cons]
    omega
end
end W73
set_option Elab.async false
set_option linter.all false
set_option maxRecDepth 100000
set_option maxHeartbeats 4000000
namespace W73
open PySem PySem.Spec PyProof.Rows L2
open C8 (Cal Met Mak pe_c pe_mk pe_mt pe_mt0 pe_gc pss_cut tCut)
section
variable {P : Program} {w : World} {K : PySem.W.Frag} {mg : Str → Option Value} {base : Heap}
/-! ### rows that are drawn: how deep they are -/
theorem dp_i {n : Int} : (D.i n).dp = 0 := by rw [D.dp]
theorem dp_s {x : Str} : (D.s x).dp = 0 := by rw [D.dp]
theorem dp_t {l : List D} : (D.t l).dp = D.dps l + 1 := by rw [D.dp]
theorem dps_cons {d : D} {l : List D} : D.dps (d :: l) = max d.dp (D.dps l) := by rw [D.dps]
theorem dps_nil : D.dps [] = 0 := by rw [D.dps]
theorem Rf.dp {r : Rf} : r.d.dp = 1 := by cases r <;> simp [Rf.d, dp_t, dps_cons, dps_nil, dp_i, dp_s]
theorem refs_dp : ∀ {l : List Rf}, D.dps (l.map Rf.d) ≤ 1
  | [] => by rw [List.map_nil, dps_nil]; omega
  | r :: l => by
    have h2 := refs_dp (l := l)
    rw [List.map_cons, dps_cons, Rf.dp]
    omega
theorem R0.dp {r : R0} : r.d.dp ≤ 3 := by
  unfold R0.d
  rw [dp_t]
  cases r <;> simp only [R0.ds, dps_cons, dps_nil, dp_s, dp_t, Rf.dp] <;> try omega
  case prim a p l => have := refs_dp (l := l); omega
theorem r0s_dp : ∀ {l : List R0}, D.dps (l.map R0.d) ≤ 3
  | [] => by rw [List.map_nil, dps_nil]; omega
  | r :: l => by
    have h2 := r0s_dp (l := l)
    have h1 := R0.dp (r := r)
    rw [List.map_cons, dps_cons]
    omega
theorem Row.dp {r : Row} : r.d.dp ≤ 6 := by
  cases r with
  | r z => exact Nat.le_trans R0.dp (by omega)
  | iff a x y =>
    have h1 := r0s_dp (l := x)
    have h2 := r0s_dp (l := y)
    unfold Row.d
    rw [dp_t]
    simp only [Row.ds, dps_cons, dps_nil, dp_s, dp_t, Rf.dp]
    omega
theorem rows_dp : ∀ {l : List Row}, D.dps (l.map Row.d) ≤ 6
  | [] => by rw [List.map_nil, dps_nil]; omega
  | r :: l => by
    have h2 := rows_dp (l := l)
    have h1 := Row.dp (r := r)
    rw [List.map_cons, dps_cons]
    omega
/-! ### the drawn rows -/
def sp_row (m : Nat) : Sp := sp3 fun a b e H Q => ∃ s c, ∃ n d : Nat, a = .ref s ∧ Src s c H ∧ b = .int n ∧ n ≤ 3 ∧ e = .int d ∧ d ≤ m ∧ ∀ r v H', Src s c H' → Same (Wo [s, c] H) (Wo [s, c] H') → Row.ok n d r = true → TD' H' r.d v → Q v H'
def sp_rows (m : Nat) : Sp := sp4 fun a b e g H Q => ∃ s c, ∃ n most d : Nat, a = .ref s ∧ Src s c H ∧ b = .int n ∧ n ≤ 3 ∧ e = .int most ∧ most ≤ 3 ∧ g = .int d ∧ d ≤ m ∧ ∀ (l : List Row) v H', Src s c H' → Same (Wo [s, c] H) (Wo [s, c] H') → l.length ≤ most → (∀ r ∈ l, Row.ok n d r = true) → TD' H' (.t (l.map Row.d)) v → Q v H'
theorem Row.ok_le {n : Nat} {d e : Nat} {r : Row} (h : d ≤ e) (o : r.ok n d = true) : r.ok n e = true := by
  cases r with
  | r z => exact o
  | iff a x y =>
    simp only [Row.ok, Bool.and_eq_true, decide_eq_true_eq] at o ⊢
    obtain ⟨⟨⟨⟨⟨h0, h1⟩, h2⟩, h3⟩, h4⟩, h5⟩ := o
    exact ⟨⟨⟨⟨⟨by omega, h1⟩, h2⟩, h3⟩, h4⟩, h5⟩
theorem plain_rows {n : Nat} {l : List Row} (h : ∀ r ∈ l, Row.ok n 0 r = true) : ∃ z : List R0, l = z.map Row.r ∧ ∀ r ∈ z, r.ok n = true := by
  induction l with
  | nil => exact ⟨[], rfl, by simp⟩
  | cons r l ih =>
    obtain ⟨z, rfl, hz⟩ := ih fun x hx => h x (List.mem_cons_of_mem _ hx)
    have h0 := h r (List.mem_cons_self ..)
    cases r with
    | r y => exact ⟨y :: z, rfl, fun x hx => by
        rcases List.mem_cons.mp hx with rfl | hx
        · exact h0
        · exact hz x hx⟩
    | iff a x y => simp [Row.ok] at h0
end
end W73
set_option Elab.async false
set_option linter.all false
set_option maxRecDepth 100000
set_option maxHeartbeats 4000000
namespace W73
open PySem PySem.Spec PyProof.Rows L2
open C8 (Cal Met Mak pe_c pe_mk pe_mt pe_mt0 pe_gc pss_cut tCut)
section
variable {P : Program} {w : World} {K : PySem.W.Frag} {mg : Str → Option Value} {base : Heap}
/-! ### displays of data -/
def Mk1 (σ : L2.St) (H : Hp) (te : TE) (d : D) : Prop := ∀ (H1 : Hp) (Q : VK), Same H H1 → (∀ v H2, Same H1 H2 → TD' H2 d v → Q v H2) → te σ H1 Q
def MkA (σ : L2.St) (H : Hp) (ta : TA) (ds : List D) : Prop := ∀ (H1 : Hp) (Q : List V → Hp → Prop), Same H H1 → (∀ vs H2, Same H1 H2 → TDs H2 ds vs → Q vs H2) → ta σ H1 Q
theorem le_z {l : List D} (h : Nat.ble l.length 64 = true) : l.length ≤ sizeLine := Nat.le_trans (Nat.le_of_ble_eq_true h) (by decide)
theorem mk_s {σ : L2.St} {H : Hp} {x : Str} : Mk1 σ H (tC (.str x)) (.s x) := fun H1 Q _ k => k _ H1 (Same.refl _) (.s x)
theorem mk_i {σ : L2.St} {H : Hp} {n : Int} : Mk1 σ H (tC (.int n)) (.i n) := fun H1 Q _ k => k _ H1 (Same.refl _) (.i n)
theorem mk_v {σ : L2.St} {H : Hp} {i : Nat} {v : V} {d : D} (h : σ[i]? = some (some v)) (t : TD' H d v) : Mk1 σ H (tVar i) d := fun H1 Q m k => ⟨v, h, k v H1 (Same.refl _) (t.mono (.of m))⟩
theorem mk_t {σ : L2.St} {H : Hp} {ta : TA} {ds : List D} (h : MkA σ H ta ds) (hl : ds.length ≤ sizeLine) : Mk1 σ H (tTup ta) (.t ds) := fun H1 Q m k => h H1 _ m fun vs H2 m2 ts => ⟨by rw [← ts.length]; exact hl, fun p hp => k _ _ (m2.trans (Same.new hp)) (.t upd_same (ts.mono (.new hp)))⟩
theorem mka_nil {σ : L2.St} {H : Hp} : MkA σ H tNil [] := fun H1 Q _ k => k _ H1 (Same.refl _) .nil
theorem mka_cons {σ : L2.St} {H : Hp} {te : TE} {ta : TA} {d : D} {ds : List D} (h : Mk1 σ H te d) (hs : MkA σ H ta ds) : MkA σ H (tCons te ta) (d :: ds) := fun H1 Q m k => h H1 _ m fun v H2 m2 tv => hs H2 _ (m.trans m2) fun vs H3 m3 ts => k _ H3 (m2.trans m3) (.cons (tv.mono (.of m3)) ts)
/-- a new list of data -/
def MkL (σ : L2.St) (H : Hp) (te : TE) (ds : List D) : Prop := ∀ (H1 : Hp) (Q : VK), Same H H1 → (∀ p H2, Same H1 H2 → LD H2 p ds → H1 p = none → Q (.ref p) H2) → te σ H1 Q
theorem mk_l {σ : L2.St} {H : Hp} {ta : TA} {ds : List D} (h : MkA σ H ta ds) (hl : ds.length ≤ sizeLine) : MkL σ H (tLst ta) ds := fun H1 Q m k => h H1 _ m fun vs H2 m2 ts => ⟨by rw [← ts.length]; exact hl, fun p hp => k _ _ (m2.trans (Same.new hp)) ⟨vs, upd_same, ts.mono (.new hp)⟩ (Same.none m2 hp)⟩
/-- what is made so far -/
theorem mk_cat {σ : L2.St} {H : Hp} {i : Nat} {p : Addr} {te : TE} {d1 d2 : List D} (hi : σ[i]? = some (some (.ref p))) (h1 : LD H p d1) (h2 : MkL σ H te d2) (hl : (d1 ++ d2).length ≤ sizeLine) : MkL σ H (tOp rCat (tVar i) te) (d1 ++ d2) := fun H1 Q m k => ⟨_, hi, h2 H1 _ m fun b H2 m2 ⟨us, e2, t2⟩ _ => by
  obtain ⟨vs, e1, t1⟩ := (h1.same m).same m2
  have l1 := t1.length
  have l2 := t2.length
  rw [List.length_append] at hl
  exact ⟨p, b, vs, us, rfl, rfl, e1, e2, by omega, fun q hq => k q _ (m2.trans (Same.new hq)) ⟨_, upd_same, (t1.append t2).mono (.new hq)⟩ (Same.none m2 hq)⟩⟩
/-- xs.append(e), xs a new list -/
theorem mk_app {K : PySem.W.Frag} {σ : L2.St} {H0 H : Hp} {i : Nat} {p : Addr} {te : TE} {d1 : List D} {d : D} {R : Hp → Prop} (hi : σ[i]? = some (some (.ref p))) (h1 : LD H p d1) (hp : H0 p = none) (h2 : Mk1 σ H te d) (hl : d1.length < sizeLine) (m : Same H0 H)
    (k : ∀ H2, Same H0 H2 → Bt p H H2 → Tps H H2 → LD H2 p (d1 ++ [d]) → R H2) : tBM K "list" rAppend (tVar i) (tCons te tNil) σ H fun _ H2 => R H2 := by
  obtain ⟨vs, e1, t1⟩ := h1
  refine ⟨_, hi, .inl ⟨rfl, _, .inl (.inl e1)⟩, h2 H _ (Same.refl _) fun v H2 m2 tv => ?_⟩
  have e2 := m2 _ _ e1
  have tp : Tps H2 (upd H2 p (.lst (vs ++ [v]))) := Tps.put e2 fun _ z => by cases z
  have l1 := t1.length
  refine ⟨p, vs, v, rfl, rfl, e2, by omega, k _ (Same.mut (m.trans m2) hp) ((Bt.of m2).trans .put) ((Tps.of m2).trans tp) ⟨_, upd_same, ?_⟩⟩
  exact ((t1.mono (.of m2)).mono tp).append (.cons (tv.mono tp) .nil)
theorem st_any {σ : L2.St} {H : Hp} {te : TE} {g : TG} {u : TS} {D : Ends} (h : te σ H fun x H1 => g x σ H1 (u D)) : tSeq (tAsg te g) u D σ H := h
theorem st_mk {σ : L2.St} {H : Hp} {te : TE} {d : D} {i : Nat} {u : TS} {D : Ends} (h : Mk1 σ H te d) (k : ∀ v H2, Same H H2 → TD' H2 d v → u D (σ.set i (some v)) H2) : tSeq (tAsg te (gName i)) u D σ H := h H _ (Same.refl _) k
theorem st_mkl {σ : L2.St} {H : Hp} {te : TE} {ds : List D} {i : Nat} {u : TS} {D : Ends} (h : MkL σ H te ds) (k : ∀ p H2, Same H H2 → LD H2 p ds → H p = none → u D (σ.set i (some (.ref p))) H2) : tSeq (tAsg te (gName i)) u D σ H := h H _ (Same.refl _) k
theorem st_par2 {σ : L2.St} {H : Hp} {te te' : TE} {d d' : D} {i j : Nat} {u : TS} {D : Ends} (h : Mk1 σ H te d) (h' : Mk1 σ H te' d') (k : ∀ v v' H2, Same H H2 → TD' H2 d v → TD' H2 d' v' → u D ((σ.set i (some v)).set j (some v')) H2) : tSeq (tPar i j (tCons te (tCons te' tNil))) u D σ H :=
  h H _ (Same.refl _) fun v H1 m1 tv => h' H1 _ m1 fun v' H2 m2 tv' => ⟨v, v', rfl, k v v' H2 (m1.trans m2) (tv.mono (.of m2)) tv'⟩
theorem st_mkl1 {σ : L2.St} {H : Hp} {te : TE} {ds : List D} {i : Nat} {D : Ends} (h : MkL σ H te ds) (k : ∀ p H2, Same H H2 → LD H2 p ds → H p = none → D.nx (σ.set i (some (.ref p))) H2) : tAsg te (gName i) D σ H := h H _ (Same.refl _) k
theorem st_app {K : PySem.W.Frag} {σ : L2.St} {H0 H : Hp} {i : Nat} {p : Addr} {te : TE} {d1 : List D} {d : D} {u : TS} {D : Ends} (hi : σ[i]? = some (some (.ref p))) (h1 : LD H p d1) (hp : H0 p = none) (h2 : Mk1 σ H te d) (hl : d1.length < sizeLine) (m : Same H0 H)
    (k : ∀ H2, Same H0 H2 → Bt p H H2 → Tps H H2 → LD H2 p (d1 ++ [d]) → u D σ H2) : tSeq (tDrop (tBM K "list" rAppend (tVar i) (tCons te tNil))) u D σ H := mk_app hi h1 hp h2 hl m k
theorem st_app1 {K : PySem.W.Frag} {σ : L2.St} {H0 H : Hp} {i : Nat} {p : Addr} {te : TE} {d1 : List D} {d : D} {D : Ends} (hi : σ[i]? = some (some (.ref p))) (h1 : LD H p d1) (hp : H0 p = none) (h2 : Mk1 σ H te d) (hl : d1.length < sizeLine) (m : Same H0 H)
    (k : ∀ H2, Same H0 H2 → Bt p H H2 → Tps H H2 → LD H2 p (d1 ++ [d]) → D.nx σ H2) : tDrop (tBM K "list" rAppend (tVar i) (tCons te tNil)) D σ H := mk_app hi h1 hp h2 hl m k
/-! ### the law's instructions -/
def mA : Rf := .op 0
def mB : Rf := .op 1
def mC : Rf := .op 2
def mT : Rf := .tmp 0
def mU : Rf := .tmp 1
def rw0 (l : List R0) : List Row := l.map Row.r
def mStop : List Row := rw0 [.trap "call"]
def menu1 : List (Str × Nat × List Row) := [("add", 3, rw0 [.prim mA "sum" [mB, mC]]), ("one", 1, rw0 [.prim mA "unit" []]), ("mov", 2, rw0 [.move mA mB]), ("lod", 2, rw0 [.load mA mB]), ("sto", 2, rw0 [.store mA mB]), ("jmp", 1, rw0 [.goto mA]), ("nop", 0, []),
  ("brz", 2, [.iff mA [.prim mA "less" [mA]] [.goto mB]]), ("swap", 2, rw0 [.load mT mA, .store mA mB, .load mB mA, .move mB mT])]
def mPairs : List (Str × Str) := [("tab", "table"), ("low", "mode"), ("hand", "handler"), ("ena", "enabled"), ("time", "timer")]
def mPut (p : Str × Str) : Ins := ⟨p.1, 1, mStop, rw0 [.put p.2 mA]⟩
def menuI : List Ins := menu1.map (fun p => ⟨p.1, p.2.1, p.2.2, p.2.2⟩) ++ [⟨"sys", 0, mStop, mStop⟩, ⟨"key", 1, mStop, rw0 [.inn mA]⟩] ++ [⟨"tell", 1, mStop, rw0 [.out mA]⟩] ++ mPairs.map mPut ++ [⟨"ask", 2, mStop, rw0 [.get mA "fault", .get mB "cause"]⟩] ++
  [⟨"ret", 1, mStop, rw0 [.get mT "back", .get mU "was", .put "mode" mU, .put "enabled" mA, .goto mT]⟩] ++ [⟨"see", 1, rw0 [.get mA "mode"], rw0 [.get mA "mode"]⟩, ⟨"hush", 1, [], rw0 [.put "table" mA]⟩] ++
  [⟨"loud", 1, rw0 [.out mA], rw0 [.out mA]⟩, ⟨"fall", 1, rw0 [.store mA mA], mStop⟩, ⟨"keep", 1, rw0 [.get mT "timer", .put "timer" mT], rw0 [.get mT "timer", .put "timer" mT]⟩]
theorem menu_ok : menuI.all Ins.ok = true := by decide +kernel
theorem menu_nd : ((menuI.map Ins.nm) ++ (["odd", "odder"] : List Str)).Nodup := by decide +kernel
theorem menu_len : menuI.length = 24 := by decide +kernel
def d3 (p : Str × Nat × List Row) : D := .t [.s p.1, .i (p.2.1 : Nat), .t (p.2.2.map Row.d)]
def d2 (p : Str × Str) : D := .t [.s p.1, .s p.2]
structure MV (H : Hp) (a b c t u st : V) : Prop where
  a : TD' H mA.d a
  b : TD' H mB.d b
  c : TD' H mC.d c
  t : TD' H mT.d t
  u : TD' H mU.d u
  st : TD' H (.t (mStop.map Row.d)) st
theorem MV.mono {H H' : Hp} {a b c t u st : V} (m : Tps H H') (h : MV H a b c t u st) : MV H' a b c t u st := ⟨h.a.mono m, h.b.mono m, h.c.mono m, h.t.mono m, h.u.mono m, h.st.mono m⟩
def sp_menu : Sp := sp1 fun a H Q => a = .bl true ∧ ∀ l H', Same H H' → H l = none → LD H' l (menuI.map Ins.d) → Q (.ref l) H'
theorem ok_menu (T : Tz P w K mg) : Cal P w K mg base 1 "_law_menu" sp_menu [] := by
  refine mk_law_menu T.toTx len1 fun f cdv A outer s H vs Q E hr h => ?_
  obtain ⟨_, rfl, rfl, k⟩ := h
  have hz := sizeL
  refine ⟨_, (pss_cons (ps_asg (pe_tup (pa_cons (pe_tup (pa_cons pe_str (pa_cons pe_int pa_nil))) (pa_cons (pe_tup (pa_cons pe_str (pa_cons pe_int pa_nil))) (pa_cons (pe_tup (pa_cons pe_str (pa_cons pe_int pa_nil))) (pa_cons (pe_tup (pa_cons pe_str (pa_cons pe_int pa_nil))) (pa_cons (pe_tup (pa_cons pe_str (pa_cons pe_int pa_nil))) pa_nil)))))) (pg_tup rfl (pgs_cons (pg_name (i := 1) sc_law_menu.nd rfl (Or.inl rfl)) (pgs_cons (pg_name (i := 2) sc_law_menu.nd rfl (Or.inl rfl)) (pgs_cons (pg_name (i := 3) sc_law_menu.nd rfl (Or.inl rfl)) (pgs_cons (pg_name (i := 4) sc_law_menu.nd rfl (Or.inl rfl)) (pgs_cons (pg_name (i := 5) sc_law_menu.nd rfl (Or.inl rfl)) pgs_nil)))))))
    (pss_cons (ps_set (i := 6) sc_law_menu.nd rfl (Or.inl rfl) (pe_tup (pa_cons (pe_tup (pa_cons pe_str (pa_cons pe_str pa_nil))) pa_nil)))
    (pss_cons (ps_set (i := 7) sc_law_menu.nd rfl (Or.inl rfl) (pe_lst (pa_cons (pe_tup (pa_cons pe_str (pa_cons pe_int (pa_cons (pe_tup (pa_cons (pe_tup (pa_cons pe_str (pa_cons (pv 1) (pa_cons pe_str (pa_cons (pe_tup (pa_cons (pv 2) (pa_cons (pv 3) pa_nil))) pa_nil))))) pa_nil)) pa_nil)))) (pa_cons (pe_tup (pa_cons pe_str (pa_cons pe_int (pa_cons (pe_tup (pa_cons (pe_tup (pa_cons pe_str (pa_cons (pv 1) (pa_cons pe_str (pa_cons (pe_tup pa_nil) pa_nil))))) pa_nil)) pa_nil)))) pa_nil))))
    (pss_cons (ps_set (i := 7) sc_law_menu.nd rfl (Or.inl rfl) (pe_op op_cat (pv 7) (pe_lst (pa_cons (pe_tup (pa_cons pe_str (pa_cons pe_int (pa_cons (pe_tup (pa_cons (pe_tup (pa_cons pe_str (pa_cons (pv 1) (pa_cons (pv 2) pa_nil)))) pa_nil)) pa_nil)))) (pa_cons (pe_tup (pa_cons pe_str (pa_cons pe_int (pa_cons (pe_tup (pa_cons (pe_tup (pa_cons pe_str (pa_cons (pv 1) (pa_cons (pv 2) pa_nil)))) pa_nil)) pa_nil)))) (pa_cons (pe_tup (pa_cons pe_str (pa_cons pe_int (pa_cons (pe_tup (pa_cons (pe_tup (pa_cons pe_str (pa_cons (pv 1) (pa_cons (pv 2) pa_nil)))) pa_nil)) pa_nil)))) pa_nil))))))
    (pss_cons (ps_set (i := 7) sc_law_menu.nd rfl (Or.inl rfl) (pe_op op_cat (pv 7) (pe_lst (pa_cons (pe_tup (pa_cons pe_str (pa_cons pe_int (pa_cons (pe_tup (pa_cons (pe_tup (pa_cons pe_str (pa_cons (pv 1) pa_nil))) pa_nil)) pa_nil)))) (pa_cons (pe_tup (pa_cons pe_str (pa_cons pe_int (pa_cons (pe_tup pa_nil) pa_nil)))) pa_nil)))))
    (pss_cons (ps_expr (pe_bm PySem.F.plainAttrs_list PySem.F.slot_list_append PySem.F.type_list_append mt_append (pv 7) (pa_cons (pe_tup (pa_cons pe_str (pa_cons pe_int (pa_cons (pe_tup (pa_cons (pe_tup (pa_cons pe_str (pa_cons (pv 1) (pa_cons (pe_tup (pa_cons (pe_tup (pa_cons pe_str (pa_cons (pv 1) (pa_cons pe_str (pa_cons (pe_tup (pa_cons (pv 1) pa_nil)) pa_nil))))) pa_nil)) (pa_cons (pe_tup (pa_cons (pe_tup (pa_cons pe_str (pa_cons (pv 2) pa_nil))) pa_nil)) pa_nil))))) pa_nil)) pa_nil)))) pa_nil)))
    (pss_cons (ps_expr (pe_bm PySem.F.plainAttrs_list PySem.F.slot_list_append PySem.F.type_list_append mt_append (pv 7) (pa_cons (pe_tup (pa_cons pe_str (pa_cons pe_int (pa_cons (pe_tup (pa_cons (pe_tup (pa_cons pe_str (pa_cons (pv 4) (pa_cons (pv 1) pa_nil)))) (pa_cons (pe_tup (pa_cons pe_str (pa_cons (pv 1) (pa_cons (pv 2) pa_nil)))) (pa_cons (pe_tup (pa_cons pe_str (pa_cons (pv 2) (pa_cons (pv 1) pa_nil)))) (pa_cons (pe_tup (pa_cons pe_str (pa_cons (pv 2) (pa_cons (pv 4) pa_nil)))) pa_nil))))) pa_nil)))) pa_nil)))
    (pss_cons (ps_setLc (i := 8) (g := gTupH 3 (gCons (gName 10) (gCons (gName 16) (gCons (gName 17) gNil)))) (own := [("_law_name", 10), ("_law_operands", 16), ("_law_same", 17)]) (tt := tYes) (by rfl) sc_law_menu.nd rfl rfl (sw_true rfl rfl rfl (by decide +kernel)) (pi_list (pv 7)) (blkOk_by (N := ["_law_is_wrong", "_law_a", "_law_b", "_law_c", "_law_t", "_law_u", "_law_stop", "_law_rows", "_law_found", "_law_pairs", "_law_name", "_law_special", "_law_back", "_law_look", "_law_call", "_law_keep", "_law_operands", "_law_same"]) (sc := defScope s_law_menu) (by decide +kernel)) (fun _ _ _ _ _ => (pg_tupH rfl (pgs_cons (pg_name (i := 10) sc_law_menu.nd rfl (Or.inl rfl)) (pgs_cons (pg_name (i := 16) sc_law_menu.nd rfl (Or.inl rfl)) (pgs_cons (pg_name (i := 17) sc_law_menu.nd rfl (Or.inl rfl)) pgs_nil))))) (fun _ _ _ _ _ => pts_nil) (fun _ _ _ _ _ => (pe_tup (pa_cons (pv 10) (pa_cons (pv 16) (pa_cons (pv 17) (pa_cons (pv 17) pa_nil)))))))
    (pss_cons (ps_set (i := 8) sc_law_menu.nd rfl (Or.inl rfl) (pe_op op_cat (pv 8) (pe_lst (pa_cons (pe_tup (pa_cons pe_str (pa_cons pe_int (pa_cons (pv 6) (pa_cons (pv 6) pa_nil))))) (pa_cons (pe_tup (pa_cons pe_str (pa_cons pe_int (pa_cons (pv 6) (pa_cons (pe_tup (pa_cons (pe_tup (pa_cons pe_str (pa_cons (pv 1) (pa_cons pe_str pa_nil)))) pa_nil)) pa_nil))))) pa_nil)))))
    (pss_cons (ps_expr (pe_bm PySem.F.plainAttrs_list PySem.F.slot_list_append PySem.F.type_list_append mt_append (pv 8) (pa_cons (pe_tup (pa_cons pe_str (pa_cons pe_int (pa_cons (pv 6) (pa_cons (pe_tup (pa_cons (pe_tup (pa_cons pe_str (pa_cons pe_str (pa_cons (pv 1) pa_nil)))) pa_nil)) pa_nil))))) pa_nil)))
    (pss_cons (ps_set (i := 9) sc_law_menu.nd rfl (Or.inl rfl) (pe_lst (pa_cons (pe_tup (pa_cons pe_str (pa_cons pe_str pa_nil))) (pa_cons (pe_tup (pa_cons pe_str (pa_cons pe_str pa_nil))) (pa_cons (pe_tup (pa_cons pe_str (pa_cons pe_str pa_nil))) (pa_cons (pe_tup (pa_cons pe_str (pa_cons pe_str pa_nil))) (pa_cons (pe_tup (pa_cons pe_str (pa_cons pe_str pa_nil))) pa_nil)))))))
    (pss_cons (ps_for PassesOwn.never rfl (pi_list (pv 9)) (pg_tup rfl (pgs_cons (pg_name (i := 10) sc_law_menu.nd rfl (Or.inl rfl)) (pgs_cons (pg_name (i := 11) sc_law_menu.nd rfl (Or.inl rfl)) pgs_nil))) (pss_one (ps_expr (pe_bm PySem.F.plainAttrs_list PySem.F.slot_list_append PySem.F.type_list_append mt_append (pv 8) (pa_cons (pe_tup (pa_cons (pv 10) (pa_cons pe_int (pa_cons (pv 6) (pa_cons (pe_tup (pa_cons (pe_tup (pa_cons pe_str (pa_cons (pv 11) (pa_cons (pv 1) pa_nil)))) pa_nil)) pa_nil))))) pa_nil)))))
    (pss_cons (ps_expr (pe_bm PySem.F.plainAttrs_list PySem.F.slot_list_append PySem.F.type_list_append mt_append (pv 8) (pa_cons (pe_tup (pa_cons pe_str (pa_cons pe_int (pa_cons (pv 6) (pa_cons (pe_tup (pa_cons (pe_tup (pa_cons pe_str (pa_cons (pv 1) (pa_cons pe_str pa_nil)))) (pa_cons (pe_tup (pa_cons pe_str (pa_cons (pv 2) (pa_cons pe_str pa_nil)))) pa_nil))) pa_nil))))) pa_nil)))
    (pss_cons (ps_set (i := 12) sc_law_menu.nd rfl (Or.inl rfl) (pe_tup (pa_cons (pe_tup (pa_cons pe_str (pa_cons (pv 4) (pa_cons pe_str pa_nil)))) (pa_cons (pe_tup (pa_cons pe_str (pa_cons (pv 5) (pa_cons pe_str pa_nil)))) (pa_cons (pe_tup (pa_cons pe_str (pa_cons pe_str (pa_cons (pv 5) pa_nil)))) (pa_cons (pe_tup (pa_cons pe_str (pa_cons pe_str (pa_cons (pv 1) pa_nil)))) (pa_cons (pe_tup (pa_cons pe_str (pa_cons (pv 4) pa_nil))) pa_nil)))))))
    (pss_cons (ps_expr (pe_bm PySem.F.plainAttrs_list PySem.F.slot_list_append PySem.F.type_list_append mt_append (pv 8) (pa_cons (pe_tup (pa_cons pe_str (pa_cons pe_int (pa_cons (pv 6) (pa_cons (pv 12) pa_nil))))) pa_nil)))
    (pss_cons (ps_if (pt_val (pv 0)) (pss_cons (ps_par (i := 13) (j := 14) rfl sc_law_menu.nd rfl rfl (by decide) rfl rfl (pa_cons (pe_tup (pa_cons (pe_tup (pa_cons pe_str (pa_cons (pv 1) (pa_cons pe_str pa_nil)))) pa_nil)) (pa_cons (pe_tup (pa_cons (pe_tup (pa_cons pe_str (pa_cons pe_str (pa_cons (pv 1) pa_nil)))) pa_nil)) pa_nil)) (by rfl))
    (pss_cons (ps_set (i := 15) sc_law_menu.nd rfl (Or.inl rfl) (pe_tup (pa_cons (pe_tup (pa_cons pe_str (pa_cons (pv 4) (pa_cons pe_str pa_nil)))) (pa_cons (pe_tup (pa_cons pe_str (pa_cons pe_str (pa_cons (pv 4) pa_nil)))) pa_nil))))
    (pss_cons (ps_set (i := 8) sc_law_menu.nd rfl (Or.inl rfl) (pe_op op_cat (pv 8) (pe_lst (pa_cons (pe_tup (pa_cons pe_str (pa_cons pe_int (pa_cons (pv 13) (pa_cons (pv 13) pa_nil))))) (pa_cons (pe_tup (pa_cons pe_str (pa_cons pe_int (pa_cons (pe_tup pa_nil) (pa_cons (pe_tup (pa_cons (pe_tup (pa_cons pe_str (pa_cons pe_str (pa_cons (pv 1) pa_nil)))) pa_nil)) pa_nil))))) pa_nil)))))
    (pss_one (ps_set (i := 8) sc_law_menu.nd rfl (Or.inl rfl) (pe_op op_cat (pv 8) (pe_lst (pa_cons (pe_tup (pa_cons pe_str (pa_cons pe_int (pa_cons (pv 14) (pa_cons (pv 14) pa_nil))))) (pa_cons (pe_tup (pa_cons pe_str (pa_cons pe_int (pa_cons (pe_tup (pa_cons (pe_tup (pa_cons pe_str (pa_cons (pv 1) (pa_cons (pv 1) pa_nil)))) pa_nil)) (pa_cons (pv 6) pa_nil))))) (pa_cons (pe_tup (pa_cons pe_str (pa_cons pe_int (pa_cons (pv 15) (pa_cons (pv 15) pa_nil))))) pa_nil)))))))))) pss_nil)
    (pss_one (ps_ret (pv 8))))))))))))))))))), ?_⟩
  refine st_any (mk_t (ds := [mA.d, mB.d, mC.d, mT.d, mU.d]) (by repeat' first | exact mk_s | exact mk_i | exact mk_v rfl (by assumption) | exact mka_nil | exact le_z rfl | apply mka_cons | apply mk_t | apply mk_l | apply mk_cat rfl (by assumption)) (by decide) H _ (Same.refl _) fun v H1 m1 tv => ?_)
  obtain ⟨x0, us, rfl, h0, ts⟩ := tv.tup
  cases ts with
  | @cons _ va _ _ ta ts =>
  cases ts with
  | @cons _ vb _ _ tb ts =>
  cases ts with
  | @cons _ vc _ _ tc ts =>
  cases ts with
  | @cons _ vt _ _ tt ts =>
  cases ts with
  | @cons _ vu _ _ tu ts =>
  cases ts
  refine ⟨x0, _, rfl, .inl (.inl h0), rfl, _, _, rfl, _, _, rfl, _, _, rfl, _, _, rfl, _, _, rfl, rfl, ?_⟩
  clear h0
  refine st_mk (by repeat' first | exact mk_s | exact mk_i | exact mk_v rfl (by assumption) | exact mka_nil | exact le_z rfl | apply mka_cons | apply mk_t | apply mk_l | apply mk_cat rfl (by assumption)) fun vs H2 m2 ts => ?_
  have M : MV H2 va vb vc vt vu vs := ⟨ta.mono (.of m2), tb.mono (.of m2), tc.mono (.of m2), tt.mono (.of m2), tu.mono (.of m2), ts⟩
  replace m2 := m1.trans m2
  clear ta tb tc tt tu ts m1
  have ⟨ta, tb, tc, tt, tu, ts⟩ := M
  refine st_mkl (by repeat' first | exact mk_s | exact mk_i | exact mk_v rfl (by assumption) | exact mka_nil | exact le_z rfl | apply mka_cons | apply mk_t | apply mk_l | apply mk_cat rfl (by assumption)) fun p H3 m3 l3 hp3 => ?_
  replace M := M.mono (.of m3)
  replace m3 := m2.trans m3
  replace hp3 := Same.none m2 hp3
  clear ta tb tc tt tu ts m2
  have ⟨ta, tb, tc, tt, tu, ts⟩ := M
  refine st_mkl (by repeat' first | exact mk_s | exact mk_i | exact mk_v rfl (by assumption) | exact mka_nil | exact le_z rfl | apply mka_cons | apply mk_t | apply mk_l | apply mk_cat rfl (by assumption)) fun p4 H4 m4 l4 hp4 => ?_
  replace M := M.mono (.of m4)
  replace hp4 := Same.none m3 hp4
  replace m4 := m3.trans m4
  clear ta tb tc tt tu ts m3 l3 hp3
  have ⟨ta, tb, tc, tt, tu, ts⟩ := M
  refine st_mkl (by repeat' first | exact mk_s | exact mk_i | exact mk_v rfl (by assumption) | exact mka_nil | exact le_z rfl | apply mka_cons | apply mk_t | apply mk_l | apply mk_cat rfl (by assumption)) fun p5 H5 m5 l5 hp5 => ?_
  replace M := M.mono (.of m5)
  replace hp5 := Same.none m4 hp5
  replace m5 := m4.trans m5
  clear ta tb tc tt tu ts m4 l4 hp4
  have ⟨ta, tb, tc, tt, tu, ts⟩ := M
  refine st_app rfl l5 hp5 (by repeat' first | exact mk_s | exact mk_i | exact mk_v rfl (by assumption) | exact mka_nil | exact le_z rfl | apply mka_cons | apply mk_t | apply mk_l | apply mk_cat rfl (by assumption)) (by decide) m5 fun H6 m6 _ t6 l6 => ?_
  replace M := M.mono t6
  clear ta tb tc tt tu ts m5 t6 l5
  have ⟨ta, tb, tc, tt, tu, ts⟩ := M
  refine st_app rfl l6 hp5 (by repeat' first | exact mk_s | exact mk_i | exact mk_v rfl (by assumption) | exact mka_nil | exact le_z rfl | apply mka_cons | apply mk_t | apply mk_l | apply mk_cat rfl (by assumption)) (by decide) m6 fun H7 m7 _ t7 l7 => ?_
  replace M := M.mono t7
  clear ta tb tc tt tu ts m6 t7 l6
  have l7 : LD H7 p5 (menu1.map d3) := l7
  obtain ⟨us7, e7, t7'⟩ := l7
  have n7 := t7'.length
  rw [List.length_map] at n7
  have n7 : 9 = us7.length := n7
  show tSeq _ _ _ [some (.bl true), some va, some vb, some vc, some vt, some vu, some vs, some (.ref p5), none, none, none, none, none, none, none, none, none, none] H7
  refine st_any ⟨_, rfl, p5, rfl, ⟨_, .inl (.inl e7)⟩, fun D hD => ?_⟩
  refine lc_it (walk_list (xs := us7)) (fun i H1 => Same H7 H1 ∧ ∃ vs, H1 D = some (.lst vs) ∧ vs.length = i ∧ TDs H1 ((menu1.take i).map fun p => Ins.d ⟨p.1, p.2.1, p.2.2, p.2.2⟩) vs) ⟨Same.new hD, [], upd_same, rfl, .nil⟩ (fun i H1 _ h => .inl (.inl (h.1 _ _ e7))) (fun i x H1 H2 hi ⟨m1, vs1, e1, n1, t1⟩ y => ?_) fun H8 ⟨m8, vs8, e8, n8, t8⟩ => ?_
  · obtain ⟨rfl, hy⟩ := y
    obtain ⟨d, hd, td⟩ := TDs.get' (t7'.mono (.of m1)) hy
    rw [List.getElem?_map] at hd
    obtain ⟨q, hq, rfl⟩ := Option.map_eq_some_iff.mp hd
    obtain ⟨a, ws, rfl, ha, tw⟩ := td.tup
    cases tw with
    | @cons _ v1 _ _ tv1 tw =>
    cases tw with
    | @cons _ v2 _ _ tv2 tw =>
    cases tw with
    | @cons _ v3 _ _ tv3 tw =>
    cases tw
    refine ⟨a, _, rfl, ha, rfl, _, _, rfl, _, _, rfl, _, _, rfl, rfl, rfl, yesI ?_⟩
    refine mk_t (ds := Ins.ds ⟨q.1, q.2.1, q.2.2, q.2.2⟩) (mka_cons (mk_v rfl tv1) (mka_cons (mk_v rfl tv2) (mka_cons (mk_v rfl tv3) (mka_cons (mk_v rfl tv3) mka_nil)))) (by show 4 ≤ sizeLine; decide) H2 _ (Same.refl _) fun v H3 m2 tv => ?_
    have e2 := m2 _ _ e1
    have tp : Tps H3 (upd H3 D (.lst (vs1 ++ [v]))) := Tps.put e2 fun _ z => by cases z
    refine ⟨_, e2, by omega, Same.mut (m1.trans m2) hD, _, upd_same, by simp [n1], ?_⟩
    rw [List.take_add_one, hq, List.map_append]
    exact ((t1.mono (.of m2)).mono tp).append (.cons (tv.mono tp) .nil)
  · have l8 : LD H8 D (menu1.map fun p => Ins.d ⟨p.1, p.2.1, p.2.2, p.2.2⟩) := ⟨vs8, e8, by
      rw [← n7] at t8
      exact t8⟩
    have hp8 := Same.none m7 hD
    replace m7 := m7.trans m8
    replace M := M.mono (.of m8)
    clear t8 e8 n8 m8 t7' e7 n7 hD
    have ⟨ta, tb, tc, tt, tu, ts⟩ := M
    refine st_mkl (by repeat' first | exact mk_s | exact mk_i | exact mk_v rfl (by assumption) | exact mka_nil | exact le_z rfl | apply mka_cons | apply mk_t | apply mk_l | apply mk_cat rfl (by assumption)) fun p9 H9 m9 l9 hp9 => ?_
    replace M := M.mono (.of m9)
    replace hp9 := Same.none m7 hp9
    replace m9 := m7.trans m9
    clear ta tb tc tt tu ts m7 l8 hp8
    have ⟨ta, tb, tc, tt, tu, ts⟩ := M
    refine st_app rfl l9 hp9 (by repeat' first | exact mk_s | exact mk_i | exact mk_v rfl (by assumption) | exact mka_nil | exact le_z rfl | apply mka_cons | apply mk_t | apply mk_l | apply mk_cat rfl (by assumption)) (by decide) m9 fun H10 m10 _ t10 l10 => ?_
    replace M := M.mono t10
    clear ta tb tc tt tu ts m9 t10 l9
    have ⟨ta, tb, tc, tt, tu, ts⟩ := M
    refine st_mkl (by repeat' first | exact mk_s | exact mk_i | exact mk_v rfl (by assumption) | exact mka_nil | exact le_z rfl | apply mka_cons | apply mk_t | apply mk_l | apply mk_cat rfl (by assumption)) fun p11 H11 m11 l11 hp11 => ?_
    have nn : p9 ≠ p11 := fun z => by
      obtain ⟨_, e, _⟩ := l10
      rw [z, hp11] at e
      cases e
    replace M := M.mono (.of m11)
    replace l10 := l10.same m11
    replace hp11 := Same.none m10 hp11
    replace m11 := m10.trans m11
    clear ta tb tc tt tu ts m10
    have l11 : LD H11 p11 (mPairs.map d2) := l11
    obtain ⟨us11, e11, t11⟩ := l11
    have n11 := t11.length
    rw [List.length_map] at n11
    have n11 : 5 = us11.length := n11
    show tSeq _ _ _ [some (.bl true), some va, some vb, some vc, some vt, some vu, some vs, some (.ref p5), some (.ref p9), some (.ref p11), none, none, none, none, none, none, none, none] H11
    refine ⟨_, rfl, p11, rfl, ⟨_, .inl (.inl e11)⟩, ?_⟩
    refine for_list (xs := us11) (fun i σ H' => ∃ x1 x2, σ = [some (.bl true), some va, some vb, some vc, some vt, some vu, some vs, some (.ref p5), some (.ref p9), some (.ref p11), x1, x2, none, none, none, none, none, none] ∧ Same H H' ∧ MV H' va vb vc vt vu vs ∧ H' p11 = some (.lst us11) ∧ TDs H' (mPairs.map d2) us11 ∧
      LD H' p9 ((menu1.map fun p => Ins.d ⟨p.1, p.2.1, p.2.2, p.2.2⟩) ++ [Ins.d ⟨"sys", 0, mStop, mStop⟩, Ins.d ⟨"key", 1, mStop, rw0 [.inn mA]⟩] ++ [Ins.d ⟨"tell", 1, mStop, rw0 [.out mA]⟩] ++ (mPairs.take i).map fun p => (mPut p).d)) ⟨_, _, rfl, m11, M, e11, t11, by rw [List.take_zero, List.map_nil, List.append_nil]; exact l10⟩ ?_ ?_ ?_
    · rintro i σ H' _ ⟨_, _, _, _, _, e, _⟩
      exact .inl (.inl e)
    · rintro i x σ H' hx ⟨x1, x2, rfl, m1, M1, e1, t1, l1⟩
      obtain ⟨d, hd, td⟩ := TDs.get' t1 hx
      rw [List.getElem?_map] at hd
      obtain ⟨q, hq, rfl⟩ := Option.map_eq_some_iff.mp hd
      obtain ⟨a, ws, rfl, ha, tw⟩ := td.tup
      cases tw with
      | @cons _ v1 _ _ tv1 tw =>
      cases tw with
      | @cons _ v2 _ _ tv2 tw =>
      cases tw
      refine ⟨a, _, rfl, .inl (.inl ha), rfl, _, _, rfl, _, _, rfl, rfl, ?_⟩
      have ⟨ta, tb, tc, tt, tu, ts⟩ := M1
      have lq : i < mPairs.length := (List.getElem?_eq_some_iff.mp hq).1
      have z5 : 13 ≤ sizeLine := by decide
      have z6 : 17 ≤ sizeLine := by decide
      refine st_app1 (d := (mPut q).d) rfl l1 hp9 (mk_t (ds := (mPut q).ds) (mka_cons (mk_v rfl tv1) (mka_cons mk_i (mka_cons (mk_v rfl ts) (mka_cons (mk_t (mka_cons (mk_t (mka_cons mk_s (mka_cons (mk_v rfl tv2) (mka_cons (mk_v rfl ta) mka_nil))) (by show 3 ≤ sizeLine; omega)) mka_nil) (by show 1 ≤ sizeLine; omega)) mka_nil)))) (by show 4 ≤ sizeLine; omega)) ?_ m1 fun H2 m2 b2 tp l2 => ?_
      · simp only [List.length_append, List.length_map, List.length_take, List.length_cons, List.length_nil]
        have : menu1.length = 9 := rfl
        have : mPairs.length = 5 := rfl
        omega
      · refine ⟨_, _, rfl, m2, M1.mono tp, ?_, t1.mono tp, ?_⟩
        · exact b2 _ _ nn.symm e1
        · rw [List.take_add_one, hq, List.map_append, ← List.append_assoc]
          exact l2
    · rintro σ H12 ⟨x1, x2, rfl, m12, M, e12, _, l12⟩
      have l12 : LD H12 p9 ((menu1.map fun p => Ins.d ⟨p.1, p.2.1, p.2.2, p.2.2⟩) ++ [Ins.d ⟨"sys", 0, mStop, mStop⟩, Ins.d ⟨"key", 1, mStop, rw0 [.inn mA]⟩] ++ [Ins.d ⟨"tell", 1, mStop, rw0 [.out mA]⟩] ++ mPairs.map fun p => (mPut p).d) := by
        rw [← n11] at l12
        exact l12
      have ⟨ta, tb, tc, tt, tu, ts⟩ := M
      refine st_app rfl l12 hp9 (by repeat' first | exact mk_s | exact mk_i | exact mk_v rfl (by assumption) | exact mka_nil | exact le_z rfl | apply mka_cons | apply mk_t | apply mk_l | apply mk_cat rfl (by assumption)) (by decide) m12 fun H13 m13 _ t13 l13 => ?_
      replace M := M.mono t13
      clear ta tb tc tt tu ts t13 l12
      have ⟨ta, tb, tc, tt, tu, ts⟩ := M
      refine st_mk (by repeat' first | exact mk_s | exact mk_i | exact mk_v rfl (by assumption) | exact mka_nil | exact le_z rfl | apply mka_cons | apply mk_t | apply mk_l | apply mk_cat rfl (by assumption)) fun vb' H14 m14 tb' => ?_
      replace M := M.mono (.of m14)
      replace l13 := l13.same m14
      replace m14 := m13.trans m14
      clear ta tb tc tt tu ts
      have ⟨ta, tb, tc, tt, tu, ts⟩ := M
      refine st_app rfl l13 hp9 (by repeat' first | exact mk_s | exact mk_i | exact mk_v rfl (by assumption) | exact mka_nil | exact le_z rfl | apply mka_cons | apply mk_t | apply mk_l | apply mk_cat rfl (by assumption)) (by decide) m14 fun H15 m15 _ t15 l15 => ?_
      replace M := M.mono t15
      clear ta tb tc tt tu ts t15 l13
      have ⟨ta, tb, tc, tt, tu, ts⟩ := M
      show tSeq _ _ _ [some (.bl true), some va, some vb, some vc, some vt, some vu, some vs, some (.ref p5), some (.ref p9), some (.ref p11), x1, x2, some vb', none, none, none, none, none] H15
      refine ⟨_, rfl, _, rfl, iteT ?_⟩
      refine st_par2 (by repeat' first | exact mk_s | exact mk_i | exact mk_v rfl (by assumption) | exact mka_nil | exact le_z rfl | apply mka_cons | apply mk_t | apply mk_l | apply mk_cat rfl (by assumption)) (by repeat' first | exact mk_s | exact mk_i | exact mk_v rfl (by assumption) | exact mka_nil | exact le_z rfl | apply mka_cons | apply mk_t | apply mk_l | apply mk_cat rfl (by assumption)) fun v1 v2 H16 m16 t1 t2 => ?_
      replace M := M.mono (.of m16)
      replace l15 := l15.same m16
      replace m16 := m15.trans m16
      clear ta tb tc tt tu ts
      have ⟨ta, tb, tc, tt, tu, ts⟩ := M
      refine st_mk (by repeat' first | exact mk_s | exact mk_i | exact mk_v rfl (by assumption) | exact mka_nil | exact le_z rfl | apply mka_cons | apply mk_t | apply mk_l | apply mk_cat rfl (by assumption)) fun v3 H17 m17 t3 => ?_
      replace M := M.mono (.of m17)
      replace t1 := t1.mono (.of m17)
      replace t2 := t2.mono (.of m17)
      replace l15 := l15.same m17
      replace m17 := m16.trans m17
      clear ta tb tc tt tu ts
      have ⟨ta, tb, tc, tt, tu, ts⟩ := M
      refine st_mkl (by repeat' first | exact mk_s | exact mk_i | exact mk_v rfl (by assumption) | exact mka_nil | exact le_z rfl | apply mka_cons | apply mk_t | apply mk_l | apply mk_cat rfl (by assumption)) fun p18 H18 m18 l18 hp18 => ?_
      replace M := M.mono (.of m18)
      replace t2 := t2.mono (.of m18)
      replace t3 := t3.mono (.of m18)
      replace hp18 := Same.none m17 hp18
      replace m18 := m17.trans m18
      clear ta tb tc tt tu ts t1 l15
      have ⟨ta, tb, tc, tt, tu, ts⟩ := M
      refine st_mkl1 (by repeat' first | exact mk_s | exact mk_i | exact mk_v rfl (by assumption) | exact mka_nil | exact le_z rfl | apply mka_cons | apply mk_t | apply mk_l | apply mk_cat rfl (by assumption)) fun p19 H19 m19 l19 hp19 => ?_
      replace hp19 := Same.none m18 hp19
      refine ⟨_, rfl, k p19 H19 (m18.trans m19) hp19 ?_⟩
      exact l19
end
end W73
set_option Elab.async false
set_option linter.all false
set_option maxRecDepth 100000
set_option maxHeartbeats 4000000
namespace W73
open PySem PySem.Spec PyProof.Rows L2
open C8 (Cal Met Mak pe_c pe_mk pe_mt pe_mt0 pe_gc pss_cut tCut)
section
variable {P : Program} {w : World} {K : PySem.W.Frag} {mg : Str → Option Value} {base : Heap}
theorem Wo.mut {S : List Addr} {H H' : Hp} {D : Addr} {o : HO} (m : Same (Wo S H) (Wo S H')) (h : H D = none) : Same (Wo S H) (Wo S (upd H' D o)) := fun b u e => by
  have nb : b ∉ S := fun z => by simp only [Wo, z, if_true] at e; cases e
  have e' := Wo.to _ _ e
  exact Wo.at ((upd_ne fun z => by rw [z, h] at e'; cases e').trans (Wo.to _ _ (m _ _ e))) nb
theorem ok_rows (T : Tz P w K mg) {m k : Nat} (hk : 1 ≤ k) (c_law_drawn_row : Cal P w K mg base k "_law_drawn_row" (sp_row m) []) : Cal P w K mg base (k + 1) "_law_drawn_rows" (sp_rows m) [] := by
  have c_law_pick : Cal P w K mg base 1 "_law_pick" sp_pick [] := ok_pick T
  refine mk_law_drawn_rows T.toTx len4 fun f cdv A outer s H vs Q E hr h => ?_
  obtain ⟨_, _, _, _, rfl, s, c, n, most, d, rfl, hs, rfl, hn, rfl, hmost, rfl, hd, k⟩ := h
  have hz := sizeL
  refine ⟨_, (pss_cons (ps_set (i := 4) sc_law_drawn_rows.nd rfl (Or.inl rfl) (pe_c c_law_pick hr (by first | decide | omega) rfl (pa_cons (pv 0) (pa_cons (pe_op op_add (pv 2) pe_int) pa_nil))))
    (pss_cons (ps_set (i := 5) sc_law_drawn_rows.nd rfl (Or.inl rfl) (pe_callTy call_tuple_of (by rfl) T.b_tuple boot_tuple (pa_cons (pe_lc  (own := [("_law_k", 6)]) (g := gName 6) (tt := tYes) rfl sc_law_drawn_rows.nd (pi_range1 (by rfl) T.b_range (pa_cons (pv 4) pa_nil)) (blkOk_by (N := ["_law_source_here", "_law_operands", "_law_most", "_law_deep", "_law_many", "_law_found", "_law_k"]) (sc := defScope s_law_drawn_rows) (by decide +kernel)) (fun _ _ _ _ _ => (pg_name (i := 6) sc_law_drawn_rows.nd rfl (Or.inl rfl))) (fun _ _ _ _ _ => pts_nil) (fun _ _ _ _ _ => (pe_c c_law_drawn_row hr (by first | decide | omega) rfl (pa_cons (pv 0) (pa_cons (pv 1) (pa_cons (pe_ifExp (pt_cmpR op_eq (pv 6) pe_int (nomark _)) (pv 3) pe_int) pa_nil)))))) pa_nil)))
    (pss_one (ps_ret (pe_ifExp (pt_cmpR op_lt (pe_op op_add (pe_m1 PySem.F.slot_str_count PySem.F.type_str_count mt_count (pe_callB (cr_repr hr.units) (by rfl) T.b_repr boot_repr (pa_cons (pv 5) pa_nil)) pe_str) (pe_m1 PySem.F.slot_str_count PySem.F.type_str_count mt_count (pe_callB (cr_repr hr.units) (by rfl) T.b_repr boot_repr (pa_cons (pv 5) pa_nil)) pe_str)) pe_int (nomark _)) (pv 5) (pe_slice sl_tupA (pv 5) (po_some pe_int) po_none)))))), ?_⟩
  refine ⟨_, rfl, _, rfl, _, _, rfl, rfl, _, _, rfl, s, c, _, rfl, hs, rfl, by omega, fun many H1 s1 m1 r0 rr => ?_⟩
  obtain ⟨many, rfl⟩ := Int.eq_ofNat_of_zero_le r0
  have hmany : many ≤ most := by omega
  refine ⟨_, rfl, _, rfl, by omega, by omega, fun D hD => ?_⟩
  have nD := s1.new hD
  refine lc_it (walk_range (lo := 0)) (fun i H3 => Src s c H3 ∧ Same (Wo [s, c] H1) (Wo [s, c] H3) ∧ ∃ (l : List Row) (vs : List V), H3 D = some (.lst vs) ∧ l.length = i ∧ (∀ r ∈ l, Row.ok n d r = true) ∧ TDs H3 (l.map Row.d) vs) ⟨s1.put nD, Wo.mut (Same.refl _) hD, [], [], upd_same, rfl, by simp, .nil⟩ (fun _ _ _ _ => trivial) (fun i x H3 H4 hi ⟨s3, m3, l, vs, e3, l3, o3, t3⟩ y => ?_) fun H3 ⟨s3, m3, l, vs, e3, l3, o3, t3⟩ => ?_
  · obtain ⟨rfl, rfl⟩ := y
    dsimp only
    refine ⟨rfl, yesI ⟨_, rfl, _, rfl, _, rfl, rfl, _, rfl, ?_⟩⟩
    have fin : ∀ d' : Nat, d' ≤ d → ∀ r v H5, Src s c H5 → Same (Wo [s, c] H4) (Wo [s, c] H5) → Row.ok n d' r = true → TD' H5 r.d v → ∃ acc, H5 D = some (.lst acc) ∧ acc.length < sizeLine ∧ Src s c (upd H5 D (.lst (acc ++ [v]))) ∧ Same (Wo [s, c] H1) (Wo [s, c] (upd H5 D (.lst (acc ++ [v])))) ∧ ∃ (l : List Row) (vs : List V), (upd H5 D (.lst (acc ++ [v]))) D = some (.lst vs) ∧ l.length = i + 1 ∧ (∀ r ∈ l, Row.ok n d r = true) ∧ TDs (upd H5 D (.lst (acc ++ [v]))) (l.map Row.d) vs := fun d' hd' r v H5 s5 m5 o5 t5 => by
      have e5 := Wo.to _ _ (m5 _ _ (Wo.at e3 nD))
      have tp : Tps H5 (upd H5 D (.lst (vs ++ [v]))) := fun b xs e => (upd_ne fun z => by rw [z, e5] at e; cases e).trans e
      have lv := t3.length
      rw [List.length_map] at lv
      refine ⟨vs, e5, by omega, s5.put nD, Wo.mut (m3.trans m5) hD, l ++ [r], _, upd_same, by simp [l3], fun x hx => ?_, ?_⟩
      · rcases List.mem_append.mp hx with hx | hx
        · exact o3 x hx
        · simp at hx
          subst hx
          exact Row.ok_le hd' o5
      · rw [List.map_append]
        exact TDs.append ((t3.mono (s3.tps m5)).mono tp) (.cons (t5.mono tp) .nil)
    refine ite2 (fun h0 => ?_) fun h0 => ?_
    · exact ⟨_, rfl, _, _, _, rfl, s, c, n, d, rfl, s3, rfl, hn, rfl, hd, fun r v H5 s5 m5 o5 t5 => fin d (Nat.le_refl _) r v H5 s5 m5 o5 t5⟩
    · exact ⟨_, _, _, rfl, s, c, n, 0, rfl, s3, rfl, hn, rfl, Nat.zero_le _, fun r v H5 s5 m5 o5 t5 => fin 0 (Nat.zero_le _) r v H5 s5 m5 o5 t5⟩
  · have ll := t3.length
    rw [List.length_map] at ll
    have l3' : l.length = many := by omega
    refine ⟨D, vs, rfl, .inl ⟨.inl (.inl e3), fun t ht => ?_⟩⟩
    have nt := s3.new ht
    have s4 := s3.put (o := .tup vs) nt
    have m4 : Same (Wo [s, c] H) (Wo [s, c] (upd H3 t (.tup vs))) := (m1.trans m3).trans (Wo.mono (Same.new ht))
    have e4 : (upd H3 t (.tup vs)) t = some (.tup vs) := upd_same
    have t4 : TDs (upd H3 t (.tup vs)) (l.map Row.d) vs := t3.mono (.new ht)
    generalize upd H3 t (.tup vs) = H4 at s4 m4 e4 t4 ⊢
    have td : TD' H4 (.t (l.map Row.d)) (.ref t) := .t e4 t4
    have w1 := rows_wt hn (l := l) o3
    have w2 := rows_dp (l := l)
    have w3 : (W73.D.t (l.map Row.d)).wt ≤ sizeLine := by
      rw [wt_t]
      omega
    have w4 : (W73.D.t (l.map Row.d)).dp < 60 := by
      rw [dp_t]
      omega
    refine ⟨_, rfl, _, _, rfl, td, w3, w4, fun z => ⟨⟨z, rfl⟩, z, _, rfl, rfl, ?_⟩⟩
    refine ⟨_, rfl, _, _, rfl, td, w3, w4, fun z2 => ⟨⟨z2, rfl⟩, z2, _, rfl, rfl, _, _, rfl, rfl, _, _, rfl, rfl, _, rfl, ?_⟩⟩
    refine ite2 (fun _ => ?_) fun _ => ?_
    · exact ⟨_, rfl, k l _ H4 s4 m4 (by omega) o3 td⟩
    · refine ⟨_, rfl, _, rfl, t, vs, rfl, .inl (.inl e4), fun hw => ?_, fun hw p hp => ?_⟩
      · exact k l _ H4 s4 m4 (by omega) o3 td
      · have np := s4.new hp
        refine k (l.drop 1) _ _ (s4.put np) (m4.trans (Wo.mono (Same.new hp))) (by rw [List.length_drop]; omega) (fun r hr => o3 r (List.mem_of_mem_drop hr)) (.t upd_same ?_)
        have e : cutV vs (some 1) none = vs.drop 1 := by
          have e1 : HT.sIx vs.length 0 (some 1) = min 1 vs.length := by
            unfold HT.sIx
            simp
          have e2 : HT.sIx vs.length vs.length none = vs.length := rfl
          unfold cutV
          rw [e1, e2]
          cases vs with
          | nil => rfl
          | cons v vs => simp
        rw [e, List.map_drop]
        exact (t4.mono (.new hp)).drop 1
end
end W73
set_option Elab.async false
set_option linter.all false
set_option maxRecDepth 100000
set_option maxHeartbeats 4000000
namespace W73
open PySem PySem.Spec PyProof.Rows L2
open C8 (Cal Met Mak pe_c pe_mk pe_mt pe_mt0 pe_gc pss_cut tCut)
section
variable {P : Program} {w : World} {K : PySem.W.Frag} {mg : Str → Option Value} {base : Heap}
theorem Src.pair {s c : Addr} {H : Hp} (h : Src s c H) : s ≠ c := by
  obtain ⟨ns, l, m, t, h1, h2, _⟩ := h
  intro z
  rw [z, h2] at h1
  cases h1
def rowsL (a b : Rf) (x : Str) : List R0 := [.move a b, .prim a "less" [b], .prim a "sum" [b, a], .prim a "unit" [], .load a b, .store a b, .get a x, .put x b, .inn a, .out b]
theorem rowsL_ok {n : Nat} {a b : Rf} {x : Str} (ha : a.ok n = true) (hb : b.ok n = true) (hx : x ∈ kSPECS) : ∀ r ∈ rowsL a b x, r.ok n = true := by
  intro r hr
  have p1 : kPRIMS.lookup ("less" : Str) = some 1 := by decide +kernel
  have p2 : kPRIMS.lookup ("sum" : Str) = some 2 := by decide +kernel
  have p3 : kPRIMS.lookup ("unit" : Str) = some 0 := by decide +kernel
  simp only [rowsL, List.mem_cons, List.not_mem_nil, or_false] at hr
  rcases hr with rfl | rfl | rfl | rfl | rfl | rfl | rfl | rfl | rfl | rfl <;> simp [R0.ok, ha, hb, hx, p1, p2, p3]
theorem if_c {c : Bool} {a b : Int} {σ : L2.St} {H : Hp} {Q : VK} (h : Q (.int (if c = true then a else b)) H) : if c = true then tC (.int a) σ H Q else tC (.int b) σ H Q := by cases c <;> exact h
theorem mk_op {te : TE} {σ : L2.St} {H : Hp} {Q : VK} (h : te σ H Q) : te σ H Q := h
theorem ok_row (T : Tz P w K mg) {m k : Nat} {spR : Sp} (hk : 2 ≤ k) (c_law_drawn_rows : Cal P w K mg base k "_law_drawn_rows" spR []) (hR : m ≠ 0 → ∀ vs H Q E, sp_rows 0 vs H Q E → spR vs H Q E) : Cal P w K mg base (k + 1) "_law_drawn_row" (sp_row m) [] := by
  have c_law_pick : Cal P w K mg base 1 "_law_pick" sp_pick [] := ok_pick T
  have c_law_ref : Cal P w K mg base 2 "_law_ref" sp_ref [] := ok_ref T
  refine mk_law_drawn_row T.toTx len3 fun f cdv A outer s H vs Q E hr h => ?_
  obtain ⟨_, _, _, rfl, s, c, n, d, rfl, hs, rfl, hn, rfl, hd, k⟩ := h
  have hz := sizeL
  refine ⟨_, (pss_cons (ps_par (i := 3) (j := 4) rfl sc_law_drawn_row.nd rfl rfl (by decide) rfl rfl (pa_cons (pe_c c_law_ref hr (by first | decide | omega) rfl (pa_cons (pv 0) (pa_cons (pv 1) pa_nil))) (pa_cons (pe_c c_law_ref hr (by first | decide | omega) rfl (pa_cons (pv 0) (pa_cons (pv 1) pa_nil))) pa_nil)) (by rfl))
    (pss_cons (ps_set (i := 5) sc_law_drawn_row.nd rfl (Or.inl rfl) (pe_lst (pa_cons pe_str (pa_cons pe_str (pa_cons pe_str (pa_cons pe_str (pa_cons pe_str (pa_cons pe_str (pa_cons pe_str (pa_cons pe_str (pa_cons pe_str pa_nil)))))))))))
    (pss_cons (ps_par (i := 6) (j := 7) rfl sc_law_drawn_row.nd rfl rfl (by decide) rfl rfl (pa_cons (pe_c c_law_pick hr (by first | decide | omega) rfl (pa_cons (pv 0) (pa_cons (pe_ifExp (pt_cmpR op_gt (pv 2) pe_int (nomark _)) pe_int pe_int) pa_nil))) (pa_cons (pe_ix ix_list (pv 5) (pe_c c_law_pick hr (by first | decide | omega) rfl (pa_cons (pv 0) (pa_cons pe_int pa_nil))) (fun _ _ => rfl)) pa_nil)) (by rfl))
    (pss_cons (ps_set (i := 8) sc_law_drawn_row.nd rfl (Or.inl rfl) (pe_lst (pa_cons (pe_tup (pa_cons pe_str (pa_cons (pv 3) (pa_cons (pv 4) pa_nil)))) (pa_cons (pe_tup (pa_cons pe_str (pa_cons (pv 3) (pa_cons pe_str (pa_cons (pe_tup (pa_cons (pv 4) pa_nil)) pa_nil))))) (pa_cons (pe_tup (pa_cons pe_str (pa_cons (pv 3) (pa_cons pe_str (pa_cons (pe_tup (pa_cons (pv 4) (pa_cons (pv 3) pa_nil))) pa_nil))))) (pa_cons (pe_tup (pa_cons pe_str (pa_cons (pv 3) (pa_cons pe_str (pa_cons (pe_tup pa_nil) pa_nil))))) pa_nil))))))
    (pss_cons (ps_set (i := 8) sc_law_drawn_row.nd rfl (Or.inl rfl) (pe_op op_cat (pv 8) (pe_lst (pa_cons (pe_tup (pa_cons pe_str (pa_cons (pv 3) (pa_cons (pv 4) pa_nil)))) pa_nil))))
    (pss_cons (ps_set (i := 8) sc_law_drawn_row.nd rfl (Or.inl rfl) (pe_op op_cat (pv 8) (pe_lst (pa_cons (pe_tup (pa_cons pe_str (pa_cons (pv 3) (pa_cons (pv 4) pa_nil)))) (pa_cons (pe_tup (pa_cons pe_str (pa_cons (pv 3) (pa_cons (pv 7) pa_nil)))) (pa_cons (pe_tup (pa_cons pe_str (pa_cons (pv 7) (pa_cons (pv 4) pa_nil)))) (pa_cons (pe_tup (pa_cons pe_str (pa_cons (pv 3) (pa_cons pe_str pa_nil)))) (pa_cons (pe_tup (pa_cons pe_str (pa_cons pe_str (pa_cons (pv 4) pa_nil)))) pa_nil))))))))
    (pss_cons (ps_if (pt_cmpR op_lt (pv 6) pe_int (nomark _)) (pss_one (ps_ret (pe_ix ix_list (pv 8) (pv 6) (fun _ _ => rfl)))) pss_nil)
    (pss_cons (ps_if (pt_cmpR op_eq (pv 6) pe_int (nomark _)) (pss_one (ps_ret (pe_tup (pa_cons pe_str (pa_cons (pv 4) pa_nil))))) pss_nil)
    (pss_cons (ps_if (pt_cmpR op_eq (pv 6) pe_int (nomark _)) (pss_one (ps_ret (pe_tup (pa_cons pe_str (pa_cons (pe_ix ix_list (pe_lst (pa_cons pe_str (pa_cons pe_str pa_nil))) (pe_c c_law_pick hr (by first | decide | omega) rfl (pa_cons (pv 0) (pa_cons pe_int pa_nil))) (fun _ _ => rfl)) pa_nil))))) pss_nil)
    (pss_one (ps_ret (pe_tup (pa_cons pe_str (pa_cons (pv 4) (pa_cons (pe_c c_law_drawn_rows hr (by first | decide | omega) rfl (pa_cons (pv 0) (pa_cons (pv 1) (pa_cons pe_int (pa_cons pe_int pa_nil))))) (pa_cons (pe_c c_law_drawn_rows hr (by first | decide | omega) rfl (pa_cons (pv 0) (pa_cons (pv 1) (pa_cons pe_int (pa_cons pe_int pa_nil))))) pa_nil)))))))))))))))), ?_⟩
  refine ⟨_, rfl, _, rfl, _, _, rfl, s, c, n, rfl, hs, rfl, hn, fun ra va H1 s1 m1 oa ta => ?_⟩
  refine ⟨_, rfl, _, rfl, _, _, rfl, s, c, n, rfl, s1, rfl, hn, fun rb vb H2 s2 m2 ob tb => ?_⟩
  replace ta := ta.mono (s1.tps m2)
  replace m2 := m1.trans m2
  refine ⟨_, _, rfl, ?_⟩
  refine ⟨by show 9 ≤ sizeLine; omega, fun L hL => ?_⟩
  generalize hH : upd H2 L _ = H3
  have m3 : Same H2 H3 := hH ▸ Same.new hL
  have e3 : H3 L = some (.lst (kSPECS.map V.str)) := by
    rw [← hH]
    exact upd_same
  have nL := s2.new hL
  clear hH
  have s3 := s2.same m3
  replace ta := ta.mono (.of m3)
  replace tb := tb.mono (.of m3)
  replace m3 := m2.trans (Wo.mono m3)
  clear s1 s2 m1 m2 hL
  refine ⟨_, rfl, _, rfl, _, _, rfl, rfl, _, rfl, if_c ?_⟩
  refine ⟨_, _, rfl, s, c, _, rfl, s3, rfl, by split <;> omega, fun way H4 s4 m4 q0 q1 => ?_⟩
  have e4 := Wo.to _ _ (m4 _ _ (Wo.at e3 nL))
  replace ta := ta.mono (s3.tps m4)
  replace tb := tb.mono (s3.tps m4)
  replace m4 := m3.trans m4
  refine ⟨_, rfl, _, rfl, _, _, rfl, s, c, 9, rfl, s4, rfl, by omega, fun j H5 s5 m5 j0 j1 => ?_⟩
  have e5 := Wo.to _ _ (m5 _ _ (Wo.at e4 nL))
  replace ta := ta.mono (s4.tps m5)
  replace tb := tb.mono (s4.tps m5)
  replace m5 := m4.trans m5
  obtain ⟨j, rfl⟩ := Int.eq_ofNat_of_zero_le j0
  have hj : j < kSPECS.length := by show j < 9; omega
  refine ⟨L, _, _, .str kSPECS[j], rfl, rfl, .inl (.inl e5), atI_nat (by rw [List.getElem?_map, List.getElem?_eq_getElem hj]; rfl), ?_⟩
  have hx : kSPECS[j] ∈ kSPECS := List.getElem_mem hj
  generalize kSPECS[j] = x at hx ⊢
  refine ⟨_, _, rfl, ?_⟩
  have hway : way < 10 ∨ way = 10 ∨ way = 11 ∨ (way = 12 ∧ 0 < d) := by
    rcases q1 with q1 | q1
    · split at q1
      · rename_i h
        have h : (0 : Int) < d := by simpa using h
        omega
      · omega
    · omega
  clear s3 s4 m3 m4 e3 e4 e5 j0 j1 hj nL q1
  have tx : TD' H5 (.s x) (.str x) := .s x
  dsimp only
  show tSeq (tAsg _ _) _ _ [some (.ref s), some (.int n), some (.int d), some va, some vb, some (.ref L), some (.int way), some (.str x), none] H5
  refine st_mkl (by repeat' first | exact mk_s | exact mk_i | exact mk_v rfl (by assumption) | exact mka_nil | exact le_z rfl | apply mka_cons | apply mk_t | apply mk_l | apply mk_cat rfl (by assumption)) fun p6 H6 m6 l6 hp6 => ?_
  replace ta := ta.mono (.of m6)
  replace tb := tb.mono (.of m6)
  replace hp6 := s5.new hp6
  replace tx : TD' H6 (.s x) (.str x) := .s x
  refine st_mkl (by repeat' first | exact mk_s | exact mk_i | exact mk_v rfl (by assumption) | exact mka_nil | exact le_z rfl | apply mka_cons | apply mk_t | apply mk_l | apply mk_cat rfl (by assumption)) fun p7 H7 m7 l7 hp7 => ?_
  replace ta := ta.mono (.of m7)
  replace tb := tb.mono (.of m7)
  replace hp7 := (s5.same m6).new hp7
  replace tx : TD' H7 (.s x) (.str x) := .s x
  refine st_mkl (by repeat' first | exact mk_s | exact mk_i | exact mk_v rfl (by assumption) | exact mka_nil | exact le_z rfl | apply mka_cons | apply mk_t | apply mk_l | apply mk_cat rfl (by assumption)) fun p8 H8 m8 l8 hp8 => ?_
  replace ta := ta.mono (.of m8)
  replace tb := tb.mono (.of m8)
  replace hp8 := ((s5.same m6).same m7).new hp8
  have m58 := (m6.trans m7).trans m8
  have s8 := s5.same m58
  replace m58 := m5.trans (Wo.mono m58)
  clear s5 m5 m6 m7 m8 l6 l7 tx hp6 hp7
  have l8 : LD H8 p8 ((rowsL ra rb x).map R0.d) := l8
  obtain ⟨us, e8, t8⟩ := l8
  show tSeq (tIfS _ _ _) _ _ [some (.ref s), some (.int n), some (.int d), some va, some vb, some (.ref L), some (.int way), some (.str x), some (.ref p8)] H8
  refine ⟨_, rfl, _, _, rfl, rfl, _, rfl, ite2 (fun hw => ?_) fun hw => ?_⟩
  · have hw : way < 10 := by simpa using hw
    obtain ⟨i, rfl⟩ := Int.eq_ofNat_of_zero_le q0
    have hi : i < ((rowsL ra rb x).map R0.d).length := by show i < 10; omega
    obtain ⟨v, hv, tv⟩ := TDs.get t8 (List.getElem?_eq_getElem hi)
    refine ⟨_, rfl, _, rfl, p8, us, _, v, rfl, rfl, .inl (.inl e8), atI_nat hv, ?_⟩
    rw [List.getElem_map] at tv
    exact k (.r _) v H8 s8 m58 (rowsL_ok oa ob hx _ (List.getElem_mem (by simpa using hi))) tv
  refine ⟨_, rfl, rfl, _, rfl, ite2 (fun hw2 => ?_) fun hw2 => ?_⟩
  · refine (mk_t (ds := R0.ds (.goto rb)) (by repeat' first | exact mk_s | exact mk_i | exact mk_v rfl (by assumption) | exact mka_nil | exact le_z rfl | apply mka_cons | apply mk_t | apply mk_l | apply mk_cat rfl (by assumption)) (le_z rfl)) H8 _ (Same.refl _) fun v H9 m9 tv => ?_
    exact k (.r (.goto rb)) v H9 (s8.same m9) (m58.trans (Wo.mono m9)) ob tv
  refine ⟨_, rfl, rfl, _, rfl, ite2 (fun hw3 => ?_) fun hw3 => ?_⟩
  · refine ⟨by show 2 ≤ sizeLine; omega, fun L2 hL2 => ?_⟩
    generalize hH : upd H8 L2 _ = H9
    have m9 : Same H8 H9 := hH ▸ Same.new hL2
    have e9 : H9 L2 = some (.lst (kCAUSES.map V.str)) := by
      rw [← hH]
      exact upd_same
    have nL2 := s8.new hL2
    clear hH
    refine ⟨_, rfl, _, _, rfl, s, c, 2, rfl, s8.same m9, rfl, by omega, fun j H10 s10 m10 j0 j1 => ?_⟩
    have e10 := Wo.to _ _ (m10 _ _ (Wo.at e9 nL2))
    obtain ⟨j, rfl⟩ := Int.eq_ofNat_of_zero_le j0
    have hj : j < kCAUSES.length := by show j < 2; omega
    refine ⟨L2, _, _, .str kCAUSES[j], rfl, rfl, .inl (.inl e10), atI_nat (by rw [List.getElem?_map, List.getElem?_eq_getElem hj]; rfl), ?_⟩
    have hc : kCAUSES[j] ∈ kCAUSES := List.getElem_mem hj
    generalize kCAUSES[j] = y at hc ⊢
    refine ⟨by show 2 ≤ sizeLine; omega, fun t ht => ?_⟩
    refine k (.r (.trap y)) (.ref t) _ (s10.put (s10.new ht)) ((m58.trans (Wo.mono m9)).trans (m10.trans (Wo.mono (Same.new ht)))) (by simpa [Row.ok, R0.ok] using hc) (.t upd_same (.cons (.s _) (.cons (.s _) .nil)))
  · have hw : ¬ way < 10 := by simpa using hw
    have hw2 : way ≠ 10 := by simpa using hw2
    have hw3 : way ≠ 11 := by simpa using hw3
    have hd0 : 0 < d := by omega
    refine ⟨_, rfl, _, rfl, _, rfl, hR (by omega) _ _ _ _ ⟨_, _, _, _, rfl, s, c, n, 1, 0, rfl, s8, rfl, hn, rfl, by omega, rfl, Nat.zero_le _, fun l1 v1 H9 s9 m9 n1 o1 t1 => ?_⟩⟩
    refine ⟨_, rfl, _, rfl, hR (by omega) _ _ _ _ ⟨_, _, _, _, rfl, s, c, n, 1, 0, rfl, s9, rfl, hn, rfl, by omega, rfl, Nat.zero_le _, fun l2 v2 H10 s10 m10 n2 o2 t2 => ?_⟩⟩
    refine ⟨by show 4 ≤ sizeLine; omega, fun t ht => ?_⟩
    obtain ⟨z1, rfl, oz1⟩ := plain_rows o1
    obtain ⟨z2, rfl, oz2⟩ := plain_rows o2
    rw [List.length_map] at n1 n2
    have tb10 := (tb.mono (s8.tps m9)).mono (s9.tps m10)
    have t1' := t1.mono (s9.tps m10)
    rw [List.map_map] at t1' t2
    refine k (.iff rb z1 z2) (.ref t) _ (s10.put (s10.new ht)) (m58.trans (m9.trans (m10.trans (Wo.mono (Same.new ht))))) ?_ (.t upd_same (.cons (.s _) (.cons (tb10.mono (.new ht)) (.cons (t1'.mono (.new ht)) (.cons (t2.mono (.new ht)) .nil)))))
    simp only [Row.ok, Bool.and_eq_true, decide_eq_true_eq, List.all_eq_true]
    exact ⟨⟨⟨⟨⟨hd0, ob⟩, by omega⟩, oz1⟩, by omega⟩, oz2⟩
/-- the drawn rows: of a depth of at most 1 -/
theorem ok_drawn (T : Tz P w K mg) : Cal P w K mg base 6 "_law_drawn_rows" (sp_rows 1) [] := by
  have c0 : Cal P w K mg base 2 "_law_drawn_rows" (sp4 fun _ _ _ _ _ _ => False) [] := mk_law_drawn_rows T.toTx len4 fun f cdv A outer s H vs Q E hr h => by
    obtain ⟨_, _, _, _, rfl, h⟩ := h
    exact h.elim
  have c1 : Cal P w K mg base 3 "_law_drawn_row" (sp_row 0) [] := ok_row T (by omega) c0 fun h => absurd rfl h
  have c2 : Cal P w K mg base 4 "_law_drawn_rows" (sp_rows 0) [] := ok_rows T (by omega) c1
  have c3 : Cal P w K mg base 5 "_law_drawn_row" (sp_row 1) [] := ok_row T (by omega) c2 fun _ _ _ _ _ h => h
  exact ok_rows T (by omega) c3
end
end W73
set_option Elab.async false
set_option linter.all false
set_option maxRecDepth 100000
set_option maxHeartbeats 4000000
namespace W73
open PySem PySem.Spec PyProof.Rows L2
open C8 (Cal Met Mak pe_c pe_mk pe_mt pe_mt0 pe_gc pss_cut tCut)
section
variable {P : Program} {w : World} {K : PySem.W.Frag} {mg : Str → Option Value} {base : Heap}
/-! ### new places of one's own beside the source of draws -/
def Own (s c : Addr) (H0 H : Hp) (l : List (Addr × HO)) : Prop := Src s c H ∧ Same (Wo [s, c] H0) (Wo [s, c] H) ∧ (∀ p ∈ l, H p.1 = some p.2 ∧ p.1 ∉ [s, c] ∧ H0 p.1 = none) ∧ (l.map (·.1)).Nodup
theorem Own.start {s c : Addr} {H0 : Hp} (h : Src s c H0) : Own s c H0 H0 [] := ⟨h, Same.refl _, by simp, by simp⟩
theorem Own.fresh {s c t : Addr} {H0 H : Hp} {l : List (Addr × HO)} (o : Own s c H0 H l) (h : H t = none) : H0 t = none ∧ t ∉ [s, c] ∧ t ∉ l.map (·.1) := by
  have n := o.1.new h
  refine ⟨?_, n, fun z => ?_⟩
  · cases q : H0 t with
    | none => rfl
    | some u =>
      have := Wo.to _ _ (o.2.1 _ _ (Wo.at q n))
      rw [h] at this
      cases this
  · obtain ⟨p, hp, e⟩ := List.mem_map.mp z
    have := (o.2.2.1 p hp).1
    rw [e, h] at this
    cases this
theorem Own.old {s c x : Addr} {H0 H : Hp} {l : List (Addr × HO)} {u : HO} (o : Own s c H0 H l) (n : x ∉ [s, c]) (e : H0 x = some u) : H x = some u := Wo.to _ _ (o.2.1 _ _ (Wo.at e n))
theorem Own.at {s c a : Addr} {H0 H : Hp} {l : List (Addr × HO)} {u : HO} (o : Own s c H0 H l) (i : Nat) (hi : l[i]? = some (a, u)) : H a = some u := (o.2.2.1 _ (List.mem_of_getElem? hi)).1
theorem Own.draw {s c : Addr} {H0 H H' : Hp} {l : List (Addr × HO)} (o : Own s c H0 H l) (h : Src s c H') (m : Same (Wo [s, c] H) (Wo [s, c] H')) : Own s c H0 H' l :=
  ⟨h, o.2.1.trans m, fun p hp => ⟨Wo.to _ _ (m _ _ (Wo.at (o.2.2.1 p hp).1 (o.2.2.1 p hp).2.1)), (o.2.2.1 p hp).2⟩, o.2.2.2⟩
theorem Own.same {s c : Addr} {H0 H H' : Hp} {l : List (Addr × HO)} (o : Own s c H0 H l) (m : Same H H') : Own s c H0 H' l := o.draw (o.1.same m) (Wo.mono m)
theorem Own.tail {s c : Addr} {H0 H : Hp} {p : Addr × HO} {l : List (Addr × HO)} (o : Own s c H0 H (p :: l)) : Own s c H0 H l := ⟨o.1, o.2.1, fun q hq => o.2.2.1 q (List.mem_cons_of_mem _ hq), (List.nodup_cons.mp o.2.2.2).2⟩
theorem Own.tps {s c : Addr} {H0 H H' : Hp} {l : List (Addr × HO)} (o : Own s c H0 H l) (m : Same (Wo [s, c] H) (Wo [s, c] H')) : Tps H H' := o.1.tps m
theorem Own.tp0 {s c : Addr} {H0 H : Hp} {l : List (Addr × HO)} (o : Own s c H0 H l) (hs : Src s c H0) : Tps H0 H := hs.tps o.2.1
theorem seq_use {t u : TS} {D : Ends} {σ : L2.St} {H : Hp} (Px : L2.St → Hp → Prop) (h : ∀ D' : Ends, (∀ σ H, Px σ H → D'.nx σ H) → t D' σ H) (k : ∀ σ H, Px σ H → u D σ H) : tSeq t u D σ H := h _ k
theorem Own.new {s c t : Addr} {H0 H : Hp} {l : List (Addr × HO)} {u : HO} (o : Own s c H0 H l) (h : H t = none) : Own s c H0 (upd H t u) l := o.same (Same.new h)
theorem Own.add {s c t : Addr} {H0 H : Hp} {l : List (Addr × HO)} {u : HO} (o : Own s c H0 H l) (h : H t = none) : Own s c H0 (upd H t u) ((t, u) :: l) := by
  have ⟨f1, f2, f3⟩ := o.fresh h
  have o' := o.new (u := u) h
  refine ⟨o'.1, o'.2.1, fun p hp => ?_, List.nodup_cons.mpr ⟨f3, o.2.2.2⟩⟩
  rcases List.mem_cons.mp hp with rfl | hp
  · exact ⟨upd_same, f2, f1⟩
  · exact o'.2.2.1 p hp
theorem Own.set {s c a : Addr} {H0 H : Hp} {l : List (Addr × HO)} {u u' : HO} (o : Own s c H0 H l) (i : Nat) (hi : l[i]? = some (a, u)) : Own s c H0 (upd H a u') (l.set i (a, u')) := by
  obtain ⟨e1, e2, e3⟩ := o.2.2.1 _ (List.mem_of_getElem? hi)
  have hm : (l.set i (a, u')).map (·.1) = l.map (·.1) := by
    rw [List.map_set]
    obtain ⟨hl, he⟩ := List.getElem?_eq_some_iff.mp hi
    have : (l.map (·.1))[i]'(by simpa using hl) = a := by rw [List.getElem_map, he]
    conv => rhs; rw [← List.set_getElem_self (as := l.map (·.1)) (i := i) (by simpa using hl)]
    rw [this]
  refine ⟨o.1.put e2, Wo.mut o.2.1 e3, fun p hp => ?_, by rw [hm]; exact o.2.2.2⟩
  obtain ⟨j, hj, rfl⟩ := List.mem_iff_getElem.mp hp
  have hjl : j < l.length := by simpa using hj
  by_cases hij : i = j
  · subst hij
    rw [List.getElem_set_self]
    exact ⟨upd_same, e2, e3⟩
  · rw [List.getElem_set_ne hij]
    obtain ⟨q1, q2, q3⟩ := o.2.2.1 _ (List.getElem_mem hjl)
    refine ⟨(upd_ne fun z => hij ?_).trans q1, q2, q3⟩
    obtain ⟨hl, he⟩ := List.getElem?_eq_some_iff.mp hi
    have nd := o.2.2.2
    have e2 : (l.map fun p => p.1)[i]'(by simpa using hl) = (l.map fun p => p.1)[j]'(by simpa using hjl) := by
      rw [List.getElem_map, List.getElem_map, he, z]
    exact (List.getElem_inj nd).mp e2
theorem Wo.more {S S' : List Addr} {H H' : Hp} (m : Same (Wo S H) (Wo S H')) (h : ∀ b ∈ S, b ∈ S') : Same (Wo S' H) (Wo S' H') := fun b u e => by
  have nb : b ∉ S' := fun z => by simp only [Wo, z, if_true] at e; cases e
  exact Wo.at (Wo.to _ _ (m _ _ (Wo.at (Wo.to _ _ e) fun z => nb (h b z)))) nb
theorem Own.tset {a : Addr} {s c : Addr} {H0 H : Hp} {l : List (Addr × HO)} {u u' : HO} (o : Own s c H0 H l) (i : Nat) (hi : l[i]? = some (a, u)) (hu : ∀ xs, u ≠ .tup xs) : Tps H (upd H a u') := Tps.put (o.at i hi) hu
/-! ### the house -/
def houseA (r : Int) (il ca po bk : Addr) : List (Key × V) := [(Sum.inr "registers", .int r), (Sum.inr "instructions", .ref il), (Sum.inr "causes", .ref ca), (Sum.inr "ports", .ref po), (Sum.inr "book", .ref bk)]
def houseC (pl pg : Int) (tb en co : Addr) : List (Key × V) := [(Sum.inr "places", .int pl), (Sum.inr "pages", .int pg), (Sum.inr "words", .int (pl * pg)), (Sum.inr "tables", .ref tb), (Sum.inr "entries", .ref en), (Sum.inr "code", .ref co)]
def houseB (r : Int) (il ca po bk : Addr) (pl pg : Int) (tb en co m : Addr) : List (Key × V) := houseA r il ca po bk ++ houseC pl pg tb en co ++ ([(Sum.inr "meaning", .ref m)] : List (Key × V))
/-- what the later parts see of a house -/
structure Hs (K : PySem.W.Frag) (H : Hp) (h : Addr) (g : Gd) : Prop where
  ex : ∃ il ca po bk tb en co m f, H h = some (.dK (houseB g.r il ca po bk g.pl g.pg tb en co m)) ∧ LD H il (g.is.map Ins.d) ∧ BookAt K H bk g.r g.is ∧ TabsAt H tb f ∧ OkTabs g.wd f ∧ MeanAt K H m g
  ok : g.ok
  ne : g.is ≠ []
  r2 : 2 ≤ g.r
  r4 : g.r ≤ 4
  p3 : 3 ≤ g.pl
  p5 : g.pl ≤ 5
  q2 : 2 ≤ g.pg
theorem Hs.same {H H' : Hp} {h : Addr} {g : Gd} (m : Same H H') (x : Hs K H h g) : Hs K H' h g := ⟨by
  obtain ⟨il, ca, po, bk, tb, en, co, me, f, a1, a2, a3, a4, a5, a6⟩ := x.ex
  exact ⟨il, ca, po, bk, tb, en, co, me, f, m _ _ a1, a2.same m, a3.same m, a4.same m, a5, a6.same m⟩, x.ok, x.ne, x.r2, x.r4, x.p3, x.p5, x.q2⟩
/-! ### tables that grow -/
def tabK (d1 d2 d3 : Addr) : List (Key × V) := [(Sum.inr "sum", .ref d1), (Sum.inr "less", .ref d2), (Sum.inr "unit", .ref d3)]
def tabO (d1 d2 d3 p : Addr) (k1 k2 k3 : List (List Key × V)) : List (Addr × HO) := [(d3, .dT k3), (d2, .dT k2), (d1, .dT k1), (p, .dK (tabK d1 d2 d3))]
theorem OkT.put {ar : Nat} {wd : Int} {kvs : List (List Key × V)} {ns : List Int} {m : Int} (h : OkT ar wd kvs) (hl : kvs.length < 1000) (h1 : ns.length = ar) (h2 : ∀ n ∈ ns, 0 ≤ n ∧ n < wd) (h3 : 0 ≤ m) (h4 : m < wd) : OkT ar wd (putK kvs (ns.map Sum.inl) (.int m)) := by
  refine ⟨by have := length_putK kvs (ns.map Sum.inl) (.int m); omega, fun p hp => ?_⟩
  rcases putK_mem hp with hp | rfl
  · exact h.2 p hp
  · exact ⟨ns, m, rfl, h1, h2, h3, h4⟩
theorem OkE.put {H : Hp} {wd k n : Int} {x y : Str} {v : V} {kvs : List (Key × V)} (h : OkE H wd kvs) (hl : kvs.length < 1000) (h0 : 0 ≤ k) (h1 : k < wd) (t : TD' H (.t [.i n, .s x, .s y]) v) (h2 : 0 ≤ n) (h3 : x ∈ (["all", "system"] : List Str)) (h4 : y ∈ kRIGHTS) : OkE H wd (putK kvs (Sum.inl k) v) := by
  refine ⟨by have := length_putK kvs (Sum.inl k) v; omega, fun p hp => ?_⟩
  rcases putK_mem hp with hp | rfl
  · exact h.2 p hp
  · exact ⟨k, n, x, y, rfl, h0, h1, t, h2, h3, h4⟩
theorem OkC.put {H : Hp} {is : List Ins} {r wd k : Int} {x : Str} {ns : List Int} {ins : Ins} {v : V} {kvs : List (Key × V)} (h : OkC H is r wd kvs) (hl : kvs.length < 1000) (h0 : 0 ≤ k) (h1 : k < wd) (t : TD' H (.t [.s x, .t (ns.map D.i)]) v) (h2 : insOf is x = some ins) (h3 : ns.length = ins.n) (h4 : ∀ n ∈ ns, 0 ≤ n ∧ n < r) : OkC H is r wd (putK kvs (Sum.inl k) v) := by
  refine ⟨by have := length_putK kvs (Sum.inl k) v; omega, fun p hp => ?_⟩
  rcases putK_mem hp with hp | rfl
  · exact h.2 p hp
  · exact ⟨k, x, ns, ins, rfl, h0, h1, t, h2, h3, h4⟩
theorem insOf_mem {is : List Ins} (nd : (is.map Ins.nm).Nodup) {i : Ins} (h : i ∈ is) : insOf is i.nm = some i := by
  unfold insOf
  induction is with
  | nil => cases h
  | cons j l ih =>
    have nd := List.nodup_cons.mp nd
    rcases List.mem_cons.mp h with rfl | h
    · rw [List.find?_cons_of_pos (by simp)]
    · rw [List.find?_cons_of_neg (by
        simp only [decide_eq_true_eq]
        intro z
        exact nd.1 (by rw [z]; exact List.mem_map.mpr ⟨i, h, rfl⟩))]
      exact ih nd.2 h
theorem Nt.wo {S : List Addr} {H0 H : Hp} (h : ∀ x ∈ S, ∃ u, H0 x = some u ∧ (∀ xs, u ≠ .tup xs) ∧ ∀ C d l, u ≠ .ins C d l) : Same (Nt H0 H) (Wo S H) := fun b u e => by
  refine Wo.at (Nt.to _ _ e) fun z => ?_
  obtain ⟨v, e1, n1, n2⟩ := h b z
  unfold Nt at e
  rw [e1] at e
  cases v with
  | tup xs => exact n1 _ rfl
  | ins C d l => exact n2 _ _ _ rfl
  | _ => cases e
theorem Own.at' {s c h a : Addr} {H0 H : Hp} {l : List (Addr × HO)} {u u0 o' : HO} (o : Own s c H0 H l) (e : H0 h = some u0) (i : Nat) (hi : l[i]? = some (a, u)) : Wo [s, c, h] (upd H h o') a = some u := by
  obtain ⟨e1, e2, e3⟩ := o.2.2.1 _ (List.mem_of_getElem? hi)
  have n : a ≠ h := fun z => by
    rw [z, e] at e3
    cases e3
  refine Wo.at ((upd_ne n).trans e1) fun z => ?_
  simp only [List.mem_cons, List.not_mem_nil, or_false, not_or] at z e2
  rcases z with z | z | z
  · exact e2.1 z
  · exact e2.2 z
  · exact n z
def tab3 (k1 k2 k3 : List (List Key × V)) : Str → List (List Key × V) := fun x => if x = "sum" then k1 else if x = "less" then k2 else k3
theorem tab3_1 {k1 k2 k3 : List (List Key × V)} : tab3 k1 k2 k3 "sum" = k1 := rfl
theorem tab3_2 {k1 k2 k3 : List (List Key × V)} : tab3 k1 k2 k3 "less" = k2 := (if_neg (by decide)).trans rfl
theorem tab3_3 {k1 k2 k3 : List (List Key × V)} : tab3 k1 k2 k3 "unit" = k3 := (if_neg (by decide)).trans (if_neg (by decide))
theorem merge_house {r : Int} {il ca po bk : Addr} {pl pg : Int} {tb en co : Addr} : mergeK (houseA r il ca po bk) (mergeK [] (houseC pl pg tb en co)) = houseA r il ca po bk ++ houseC pl pg tb en co := rfl
theorem put_house {r : Int} {il ca po bk : Addr} {pl pg : Int} {tb en co m : Addr} : putK (houseA r il ca po bk ++ houseC pl pg tb en co) (Sum.inr "meaning") (.ref m) = houseB r il ca po bk pl pg tb en co m := rfl
/-! ### draws -/
theorem right_in : ∀ x ∈ (["rwx", "rwx", "rx", "rw", "r", "x", "wx", ""] : List Str), x ∈ kRIGHTS := by decide +kernel
theorem some_in : ∀ x ∈ (["all", "all", "system"] : List Str), x ∈ (["all", "system"] : List Str) := by decide +kernel
theorem draw1 {s c : Addr} {H0 H : Hp} {l : List (Addr × HO)} {σ : L2.St} {ta : TA} {n : Int} {Q : VK} (o : Own s c H0 H l) (hta : ∀ R : List V → Hp → Prop, R [.ref s, .int n] H → ta σ H R) (hn : n ≤ 10000000)
    (k : ∀ r H', Own s c H0 H' l → Tps H H' → 0 ≤ r → (r < n ∨ r = 0) → Q (.int r) H') : tCall sp_pick [] C8.E0 ta σ H Q :=
  hta _ ⟨_, _, rfl, s, c, n, rfl, o.1, rfl, hn, fun r H' s' m r0 r1 => k r H' (o.draw s' m) (o.tps m) r0 r1⟩
theorem draw_str {s c : Addr} {H0 H : Hp} {l : List (Addr × HO)} {σ : L2.St} {tl ta : TA} {n : Int} {Q : VK} (o : Own s c H0 H l) (xs : List Str) (hl : ∀ R : List V → Hp → Prop, R (xs.map V.str) H → tl σ H R) (hn : n = xs.length)
    (hta : ∀ (H1 : Hp) (R : List V → Hp → Prop), R [.ref s, .int n] H1 → ta σ H1 R) (h0 : 0 < xs.length) (h1 : xs.length ≤ 1000) (k : ∀ x H', x ∈ xs → Own s c H0 H' l → Tps H H' → Q (.str x) H') : tOp (rIxL K) (tLst tl) (tCall sp_pick [] C8.E0 ta) σ H Q := by
  refine hl _ ⟨by rw [List.length_map]; exact Nat.le_trans h1 (by decide), fun L hL => ?_⟩
  have o1 := o.add (u := .lst (xs.map V.str)) hL
  refine draw1 o1 (hta _) (by omega) fun j H2 o2 t2 j0 j1 => ?_
  obtain ⟨j, rfl⟩ := Int.eq_ofNat_of_zero_le j0
  have hj : j < xs.length := by omega
  exact ⟨L, _, _, .str xs[j], rfl, rfl, .inl (.inl (o2.at 0 rfl)), atI_nat (by rw [List.getElem?_map, List.getElem?_eq_getElem hj]; rfl), k _ H2 (List.getElem_mem hj) o2.tail ((Tps.new hL).trans t2)⟩
theorem draw_list {s c : Addr} {H0 H : Hp} {l : List (Addr × HO)} {σ : L2.St} {kx : Nat} {vs : List Nat} {te : TE} {n : Nat} {Q : VK} (o : Own s c H0 H l) (hn : n ≤ 1000) (P : Int → Prop) (hw : ∀ v, wipe ((wipe σ vs).set kx (some v)) vs = wipe σ vs)
    (hte : ∀ (j : Int) (H1 : Hp) (l1 : List (Addr × HO)) (R : VK), Own s c H0 H1 l1 → (∀ v H2, Own s c H0 H2 l1 → Tps H1 H2 → P v → R (.int v) H2) → te ((wipe σ vs).set kx (some (.int j))) H1 R)
    (k : ∀ (ns : List Int) (D : Addr) (H' : Hp), ns.length = n → (∀ m ∈ ns, P m) → Own s c H0 H' ((D, .lst (ns.map V.int)) :: l) → Tps H H' → Q (.ref D) H') :
    ∀ D, H D = none → ∃ W : Nat → Nat → Hp → Prop, (∃ m, W 0 m (upd H D (.lst []))) ∧ ∀ i m H, W i m H → ((Itr 0 n).stop i H ∧ Q (.ref D) H) ∨ ((Itr 0 n).go i H ∧ ∃ Nx : Hp → Prop, (∀ H', Nx H' → ∃ m', m' < m ∧ W (i + 1) m' H') ∧ ∀ x H', (Itr 0 n).yld i H x H' → gName kx x (wipe σ vs) H' fun σ2 H2 => wipe σ2 vs = wipe σ vs ∧ tYes σ2 H2 fun b H3 =>
      if b = true then te σ2 H3 fun y H4 => ∃ acc, H4 D = some (.lst acc) ∧ acc.length < sizeLine ∧ Nx (upd H4 D (.lst (acc ++ [y]))) else Nx H3) := by
  intro D hD
  have hz := sizeL
  refine lc_it (walk_range (lo := 0)) (fun i H' => ∃ ns : List Int, ns.length = i ∧ (∀ m ∈ ns, P m) ∧ Own s c H0 H' ((D, .lst (ns.map V.int)) :: l) ∧ Tps H H') ⟨[], rfl, by simp, o.add hD, Tps.new hD⟩ (fun _ _ _ _ => trivial) (fun i x H1 H2 hi ⟨ns, ln, hp, o1, t1⟩ y => ?_) fun H' ⟨ns, ln, hp, o1, t1⟩ => k ns D H' ln hp o1 t1
  obtain ⟨rfl, rfl⟩ := y
  refine ⟨hw _, yesI (hte _ H2 _ _ o1 fun v H3 o3 t3 pv => ?_)⟩
  refine ⟨_, o3.at 0 rfl, by rw [List.length_map]; omega, ns ++ [v], by simp [ln], fun m hm => ?_, ?_, (t1.trans t3).trans (o3.tset 0 rfl fun _ z => by cases z)⟩
  · rcases List.mem_append.mp hm with hm | hm
    · exact hp m hm
    · simp at hm
      subst hm
      exact pv
  · have := o3.set (u' := .lst (ns.map V.int ++ [.int v])) 0 rfl
    rw [List.map_append]
    exact this
theorem draw_lc {s c : Addr} {H0 H : Hp} {l : List (Addr × HO)} {σ : L2.St} {wi : TI} {kx : Nat} {vs : List Nat} {te : TE} {Q : VK} (N : Nat → Prop) (P : Int → Prop) (hN : ∀ n, N n → n ≤ 1000) (hwi : ∀ R : It → Hp → Prop, (∀ n H1, N n → Own s c H0 H1 l → Tps H H1 → R (Itr 0 n) H1) → wi σ H R)
    (hw : ∀ v, wipe ((wipe σ vs).set kx (some v)) vs = wipe σ vs)
    (hte : ∀ (j : Int) (H1 : Hp) (l1 : List (Addr × HO)) (R : VK), Own s c H0 H1 l1 → (∀ v H2, Own s c H0 H2 l1 → Tps H1 H2 → P v → R (.int v) H2) → te ((wipe σ vs).set kx (some (.int j))) H1 R)
    (k : ∀ (ns : List Int) (D : Addr) (H' : Hp), N ns.length → (∀ m ∈ ns, P m) → Own s c H0 H' ((D, .lst (ns.map V.int)) :: l) → Tps H H' → Q (.ref D) H') : tLc wi (gName kx) tYes te vs σ H Q :=
  hwi _ fun n H1 hn o1 t1 => draw_list (Q := Q) o1 (hN n hn) P hw hte fun ns D H' ln hp o t => k ns D H' (ln ▸ hn) hp o (t1.trans t)
end
end W73
set_option Elab.async false
set_option linter.all false
set_option maxRecDepth 100000
set_option maxHeartbeats 4000000
namespace W73
open PySem PySem.Spec PyProof.Rows L2
open C8 (Cal Met Mak pe_c pe_mk pe_mt pe_mt0 pe_gc pss_cut tCut)
section
variable {P : Program} {w : World} {K : PySem.W.Frag} {mg : Str → Option Value} {base : Heap}
def sp_with_meaning (K : PySem.W.Frag) : Sp := sp2 fun a b H Q => ∃ s c h il ca po bk r is, a = .ref s ∧ Src s c H ∧ b = .ref h ∧ H h = some (.dK (houseA r il ca po bk)) ∧ h ∉ [s, c] ∧ LD (Wo [s, c, h] H) il (is.map Ins.d) ∧ BookAt K (Wo [s, c, h] H) bk r is ∧ GoodIs is ∧ is ≠ [] ∧ 2 ≤ r ∧ r ≤ 4 ∧
  ∀ H' g, Src s c H' → Same (Wo [s, c, h] H) (Wo [s, c, h] H') → Hs K (Wo [s, c] H') h g → Q (.ref h) H'
theorem ok_with_meaning (T : Tz P w K mg) : Cal P w K mg base 9 "_law_with_meaning" (sp_with_meaning K) [] := by
  have c_law_pick : Cal P w K mg base 1 "_law_pick" sp_pick [] := ok_pick T
  have c_Meaning : Mak P w K mg base 7 "Meaning" (C_Meaning K) (sp_Meaning_init K) [] := ok_Meaning_init T
  refine mk_law_with_meaning T.toTx len2 fun f cdv A outer s H vs Q E hr h => ?_
  obtain ⟨_, _, rfl, s, c, h, il, ca, po, bk, r, is, rfl, hs, rfl, hh, nh, hil, hbk, gi, ne, r2, r4, k⟩ := h
  have hu := hu_of hr
  have hz := sizeL
  refine ⟨_, (pss_cons (ps_set (i := 2) sc_law_with_meaning.nd rfl (Or.inl rfl) (pe_op op_add pe_int (pe_c c_law_pick hr (by first | decide | omega) rfl (pa_cons (pv 0) (pa_cons pe_int pa_nil)))))
    (pss_cons (ps_set (i := 3) sc_law_with_meaning.nd rfl (Or.inl rfl) (pe_op op_add pe_int (pe_c c_law_pick hr (by first | decide | omega) rfl (pa_cons (pv 0) (pa_cons (pe_op op_sub (pv 2) pe_int) pa_nil)))))
    (pss_cons (ps_par (i := 4) (j := 5) rfl sc_law_with_meaning.nd rfl rfl (by decide) rfl rfl (pa_cons (pe_op op_mul (pv 2) (pv 3)) (pa_cons (pe_disp (pps_cons pe_str pe_dnewT (pps_cons pe_str pe_dnewT (pps_cons pe_str (pe_u0 hu (pe_c c_law_pick hr (by first | decide | omega) rfl (pa_cons (pv 0) (pa_cons (pe_op op_mul (pv 2) (pv 3)) pa_nil)))) pps_nil))) (by rfl) (by rfl) (fun z => by cases z) (by decide)) pa_nil)) (by rfl))
    (pss_cons (ps_for PassesOwn.never rfl (pi_range1 (by rfl) T.b_range (pa_cons (pv 4) pa_nil)) (pg_name (i := 6) sc_law_with_meaning.nd rfl (Or.inl rfl)) (pss_one (ps_dput hu (pe_dget hu (pv 5) pe_str (fun _ _ => rfl)) (pe_tup (pa_cons (pv 6) pa_nil)) (pe_callB (call_max2 rfl) (by rfl) T.b_max boot_max (pa_cons pe_int (pa_cons (pe_op op_sub (pv 6) pe_int) pa_nil))) rfl)))
    (pss_cons (ps_for PassesOwn.never rfl (pi_range1 (by rfl) T.b_range (pa_cons pe_int pa_nil)) (pg_name (i := 7) sc_law_with_meaning.nd rfl (Or.inl rfl)) (pss_one (ps_dput hu (pe_dget hu (pv 5) pe_str (fun _ _ => rfl)) (pe_tup (pa_cons (pe_c c_law_pick hr (by first | decide | omega) rfl (pa_cons (pv 0) (pa_cons (pv 4) pa_nil))) (pa_cons (pe_c c_law_pick hr (by first | decide | omega) rfl (pa_cons (pv 0) (pa_cons (pv 4) pa_nil))) pa_nil))) (pe_c c_law_pick hr (by first | decide | omega) rfl (pa_cons (pv 0) (pa_cons (pv 4) pa_nil))) rfl)))
    (pss_cons (ps_par (i := 8) (j := 9) rfl sc_law_with_meaning.nd rfl rfl (by decide) rfl rfl (pa_cons pe_dnewK (pa_cons pe_dnewK pa_nil)) (by rfl))
    (pss_cons (ps_for PassesOwn.never rfl (pi_range1 (by rfl) T.b_range (pa_cons (pv 4) pa_nil)) (pg_name (i := 6) sc_law_with_meaning.nd rfl (Or.inl rfl)) (pss_cons (ps_if (pt_cmpR op_gt (pe_c c_law_pick hr (by first | decide | omega) rfl (pa_cons (pv 0) (pa_cons pe_int pa_nil))) pe_int (nomark _)) (pss_cons (ps_set (i := 10) sc_law_with_meaning.nd rfl (Or.inl rfl) (pe_ix ix_list (pe_lst (pa_cons pe_str (pa_cons pe_str (pa_cons pe_str (pa_cons pe_str (pa_cons pe_str (pa_cons pe_str (pa_cons pe_str (pa_cons pe_str pa_nil))))))))) (pe_c c_law_pick hr (by first | decide | omega) rfl (pa_cons (pv 0) (pa_cons pe_int pa_nil))) (fun _ _ => rfl)))
    (pss_one (ps_dput hu (pv 8) (pv 6) (pe_tup (pa_cons (pe_c c_law_pick hr (by first | decide | omega) rfl (pa_cons (pv 0) (pa_cons pe_int pa_nil))) (pa_cons (pe_ix ix_list (pe_lst (pa_cons pe_str (pa_cons pe_str (pa_cons pe_str pa_nil)))) (pe_c c_law_pick hr (by first | decide | omega) rfl (pa_cons (pv 0) (pa_cons pe_int pa_nil))) (fun _ _ => rfl)) (pa_cons (pv 10) pa_nil)))) rfl))) pss_nil)
    (pss_one (ps_if (PW.pt (pw_and (pt_cmpR (op_neLE hr.units0) (pe_dget hu (pv 1) pe_str (fun _ _ => rfl)) (pe_lst pa_nil) (nomark _)) (pw_and1 (pt_cmpR op_gt (pe_c c_law_pick hr (by first | decide | omega) rfl (pa_cons (pv 0) (pa_cons pe_int pa_nil))) pe_int (nomark _))))) (pss_cons (ps_asg (pe_slice sl_tup (pe_ix ix_list (pe_dget hu (pv 1) pe_str (fun _ _ => rfl)) (pe_c c_law_pick hr (by first | decide | omega) rfl (pa_cons (pv 0) (pa_cons (pe_callB call_len_seq (by rfl) T.b_len PySem.boot_len (pa_cons (pe_dget hu (pv 1) pe_str (fun _ _ => rfl)) pa_nil)) pa_nil))) (fun _ _ => rfl)) po_none (po_some pe_int)) (pg_tup rfl (pgs_cons (pg_name (i := 11) sc_law_with_meaning.nd rfl (Or.inl rfl)) (pgs_cons (pg_name (i := 12) sc_law_with_meaning.nd rfl (Or.inl rfl)) pgs_nil))))
    (pss_one (ps_dput hu (pv 9) (pv 6) (pe_tup (pa_cons (pv 11) (pa_cons (pe_callTy call_tuple_of (by rfl) T.b_tuple boot_tuple (pa_cons (pe_lc  (own := [("_law_k", 13)]) (g := gName 13) (tt := tYes) rfl sc_law_with_meaning.nd (pi_range1 (by rfl) T.b_range (pa_cons (pv 12) pa_nil)) (blkOk_by (N := ["_law_source_here", "_law_house_here", "_law_places", "_law_pages", "_law_words", "_law_lists", "_law_word", "_law_turn", "_law_entries", "_law_code", "_law_rights", "_law_name", "_law_operands", "_law_k"]) (sc := defScope s_law_with_meaning) (by decide +kernel)) (fun _ _ _ _ _ => (pg_name (i := 13) sc_law_with_meaning.nd rfl (Or.inl rfl))) (fun _ _ _ _ _ => pts_nil) (fun _ _ _ _ _ => (pe_c c_law_pick hr (by first | decide | omega) rfl (pa_cons (pv 0) (pa_cons (pe_dget hu (pv 1) pe_str (fun _ _ => rfl)) pa_nil))))) pa_nil)) pa_nil))) rfl))) pss_nil))))
    (pss_cons (ps_expr (pe_bm PySem.F.plainAttrs_dict PySem.F.slot_dict_update PySem.F.type_dict_update mt_update (pv 1) (pa_cons (pe_disp (pps_cons pe_str (pv 2) (pps_cons pe_str (pv 3) (pps_cons pe_str (pv 4) (pps_cons pe_str (pv 5) (pps_cons pe_str (pv 8) (pps_cons pe_str (pv 9) pps_nil)))))) (by rfl) (by rfl) (fun z => by cases z) (by decide)) pa_nil)))
    (pss_cons (ps_dput hu (pv 1) pe_str (pe_mk c_Meaning hr (by first | decide | omega) rfl (pa_cons (pe_dget hu (pv 1) pe_str (fun _ _ => rfl)) (pa_cons (pv 2) (pa_cons (pv 3) (pa_cons (pv 5) (pa_cons (pv 8) (pa_cons (pv 9) pa_nil))))))) rfl)
    (pss_one (ps_ret (pv 1)))))))))))), ?_⟩
  have o0 := Own.start hs
  obtain ⟨us, eil, tis⟩ := hil
  have nil : il ∉ [s, c] := fun z => by
    have : il ∈ [s, c, h] := by
      simp only [List.mem_cons, List.not_mem_nil, or_false] at z ⊢
      rcases z with z | z
      · exact .inl z
      · exact .inr (.inl z)
    simp only [Wo, this, if_true] at eil
    cases eil
  have eil0 := eil
  replace eil := Wo.to _ _ eil
  have tis' := tis
  replace tis := tis.mono (.of Wo.to)
  have lus := tis.length
  rw [List.length_map] at lus
  have lis := gi.le
  have pis : 0 < is.length := List.length_pos_iff.mpr ne
  have une : (!us.isEmpty) = true := by
    cases us with
    | nil =>
      rw [List.length_nil] at lus
      omega
    | cons _ _ => rfl
  refine ⟨_, rfl, _, _, rfl, s, c, 3, rfl, hs, rfl, by omega, fun pl H1 s1 m1 a1 b1 => ⟨_, _, rfl, rfl, ?_⟩⟩
  have o1 := o0.draw s1 m1
  dsimp only
  have p3 : 3 ≤ 3 + pl := by omega
  have p5 : 3 + pl ≤ 5 := by omega
  generalize 3 + pl = pl at p3 p5 ⊢
  refine ⟨_, rfl, _, rfl, _, _, rfl, rfl, _, _, rfl, s, c, _, rfl, s1, rfl, by omega, fun pg H2 s2 m2 a2 b2 => ⟨_, _, rfl, rfl, ?_⟩⟩
  have o2 := o1.draw s2 m2
  dsimp only
  have q2 : 2 ≤ 2 + pg := by omega
  have q5 : 2 + pg ≤ pl := by omega
  generalize 2 + pg = pg at q2 q5 ⊢
  have w6 : 6 ≤ pl * pg := by
    have := Int.mul_le_mul p3 q2 (by omega) (by omega)
    omega
  have w25 : pl * pg ≤ 25 := by
    have := Int.mul_le_mul p5 (Int.le_trans q5 p5) (by omega) (by omega)
    omega
  clear s1 m1 a1 b1 s2 m2 a2 b2 o0 o1
  refine ⟨_, rfl, _, rfl, _, _, rfl, rfl, .inl ⟨by omega, by omega⟩, fun p hp d1 hd1 d2 hd2 d3 hd3 t ntd ht => ?_⟩
  have o3 := o2.add (u := .dK []) hp
  have o4 := o3.add (u := .dT []) hd1
  have o5 := o4.add (u := .dT []) hd2
  have o6 := o5.add (u := .dT []) hd3
  have o7 := o6.add (u := .tup []) ((upd_ne ntd).trans ht)
  refine ⟨_, rfl, _, rfl, _, rfl, _, _, rfl, rfl, .inl ⟨by omega, by omega⟩, ?_⟩
  generalize upd (upd (upd (upd (upd H2 p (HO.dK [])) d1 (HO.dT [])) d2 (HO.dT [])) d3 (HO.dT [])) t (HO.tup []) = H3 at o7 ⊢
  refine ⟨_, _, rfl, s, c, _, rfl, o7.1, rfl, by omega, fun un H4 s4 m4 u0 u1 => ?_⟩
  have o8 := o7.draw s4 m4
  refine ⟨o8.at 1 rfl, o8.at 0 rfl, ?_⟩
  have o9 := o8.set (u' := .dT [([], .int un)]) 1 rfl
  refine ⟨o9.at 4 rfl, [(Sum.inr "sum", .ref d1), (Sum.inr "less", .ref d2), (Sum.inr "unit", .ref d3)], rfl, by show 3 ≤ 15; omega, ?_⟩
  have o10 := o9.set (u' := .dK [(Sum.inr "sum", .ref d1), (Sum.inr "less", .ref d2), (Sum.inr "unit", .ref d3)]) 4 rfl
  refine ⟨_, _, rfl, ?_⟩
  dsimp only
  have u2 : un < pl * pg := by omega
  show tSeq (tFor _ _ _) _ _ [some (.ref s), some (.ref h), some (.int pl), some (.int pg), some (.int (pl * pg)), some (.ref p), none, none, none, none, none, none, none, none] (upd (upd H4 d3 (.dT [([], .int un)])) p (.dK [(Sum.inr "sum", .ref d1), (Sum.inr "less", .ref d2), (Sum.inr "unit", .ref d3)]))
  generalize upd (upd H4 d3 (.dT [([], .int un)])) p (.dK [(Sum.inr "sum", .ref d1), (Sum.inr "less", .ref d2), (Sum.inr "unit", .ref d3)]) = H5 at o10 ⊢
  clear o2 o3 o4 o5 o6 o7 o8 o9 s4 m4 u1 hp hd1 hd2 hd3 ht ntd
  have o10 : Own s c H H5 (tabO d1 d2 d3 p [] [] [([], .int un)]) := o10.tail
  generalize hwd : pl * pg = wd at w6 w25 u2 ⊢
  refine ⟨_, rfl, _, rfl, by omega, by omega, ?_⟩
  refine for_range (lo := 0) (n := _) (fun i σ H' => ∃ v6 kl, σ = [some (.ref s), some (.ref h), some (.int pl), some (.int pg), some (.int wd), some (.ref p), v6, none, none, none, none, none, none, none] ∧
    Own s c H H' (tabO d1 d2 d3 p [] kl [([], .int un)]) ∧ OkT 1 wd kl ∧ kl.length ≤ i) ⟨_, [], rfl, o10, ⟨by simp, by simp⟩, by simp⟩ ?_ ?_
  · rintro i σ H6 hi ⟨v6, kl, rfl, o, ot, ll⟩
    refine ⟨_, rfl, _, _, rfl, rfl, _, _, rfl, ?_⟩
    refine ⟨_, rfl, p, .ref d2, rfl, .inl ⟨_, Sum.inr "less", .inl (o.at 3 rfl), rfl, rfl⟩, ?_⟩
    refine ⟨_, rfl, by show 1 ≤ sizeLine; omega, fun t2 ht2 => ?_⟩
    have o' := o.add (u := .tup [.int (0 + i)]) ht2
    have et2 := o'.at 0 rfl
    refine ⟨d2, _, rfl, DPut.t (k := [Sum.inl (0 + (i : Int))]) (o'.at 2 rfl) et2 (by omega), ?_⟩
    exact ⟨_, _, rfl, (o'.set 2 rfl).tail, ot.put (ns := [0 + (i : Int)]) (by omega) rfl (by simp; omega) (by split <;> omega) (by split <;> omega), by
      have := length_putK kl [Sum.inl (0 + (i : Int))] (.int (if (0 + (i : Int)) - 1 > 0 then (0 + (i : Int)) - 1 else 0))
      omega⟩
  rintro σ H6 ⟨v6, kl, rfl, o11, okl, ll⟩
  clear o10
  refine ⟨12, rfl, by omega, by omega, ?_⟩
  refine for_range (lo := 0) (n := 12) (fun i σ H' => ∃ v7 ks, σ = [some (.ref s), some (.ref h), some (.int pl), some (.int pg), some (.int wd), some (.ref p), v6, v7, none, none, none, none, none, none] ∧
    Own s c H H' (tabO d1 d2 d3 p ks kl [([], .int un)]) ∧ OkT 2 wd ks ∧ ks.length ≤ i) ⟨_, [], rfl, o11, ⟨by simp, by simp⟩, by simp⟩ ?_ ?_
  · rintro i σ H7 hi ⟨v7, ks, rfl, o, ot, ll⟩
    refine ⟨_, rfl, _, rfl, _, _, rfl, s, c, _, rfl, o.1, rfl, by omega, fun z0 H8 s8 m8 a0 b0 => ?_⟩
    replace o := o.draw s8 m8
    refine ⟨_, rfl, p, .ref d1, rfl, .inl ⟨_, Sum.inr "sum", .inl (o.at 3 rfl), rfl, rfl⟩, ?_⟩
    refine ⟨_, rfl, _, rfl, _, _, rfl, s, c, _, rfl, o.1, rfl, by omega, fun z1 H9 s9 m9 a1 b1 => ?_⟩
    replace o := o.draw s9 m9
    refine ⟨_, rfl, _, rfl, _, _, rfl, s, c, _, rfl, o.1, rfl, by omega, fun z2 H10 s10 m10 a2 b2 => ?_⟩
    replace o := o.draw s10 m10
    refine ⟨by show 2 ≤ sizeLine; omega, fun t2 ht2 => ?_⟩
    have o' := o.add (u := .tup [.int z1, .int z2]) ht2
    have et2 := o'.at 0 rfl
    refine ⟨d1, _, rfl, DPut.t (k := [Sum.inl z1, Sum.inl z2]) (o'.at 3 rfl) et2 (by omega), ?_⟩
    exact ⟨_, _, rfl, (o'.set 3 rfl).tail, ot.put (ns := [z1, z2]) (by omega) rfl (by simp; omega) (by omega) (by omega), by
      have := length_putK ks [Sum.inl z1, Sum.inl z2] (.int z0)
      omega⟩
  rintro σ H7 ⟨v7, ks, rfl, o12, oks, ll2⟩
  clear o11
  intro en hen co hco
  have o13 := (o12.add (u := .dK []) hen).add (u := .dK []) hco
  refine ⟨_, _, rfl, ?_⟩
  dsimp only
  show tSeq (tFor _ _ _) _ _ [some (.ref s), some (.ref h), some (.int pl), some (.int pg), some (.int wd), some (.ref p), v6, v7, some (.ref en), some (.ref co), none, none, none, none] (upd (upd H7 en (.dK [])) co (.dK []))
  generalize upd (upd H7 en (.dK [])) co (.dK []) = H8 at o13 ⊢
  clear o12 hen hco
  refine ⟨_, rfl, _, rfl, by omega, by omega, ?_⟩
  refine for_range (lo := 0) (n := _) (fun i σ H' => ∃ v6 v10 v11 v12 ek ck, σ = [some (.ref s), some (.ref h), some (.int pl), some (.int pg), some (.int wd), some (.ref p), v6, v7, some (.ref en), some (.ref co), v10, v11, v12, none] ∧
    Own s c H H' ((co, .dK ck) :: (en, .dK ek) :: tabO d1 d2 d3 p ks kl [([], .int un)]) ∧ (OkE H' wd ek ∧ ek.length ≤ i) ∧ OkC H' is r wd ck ∧ ck.length ≤ i) ⟨_, _, _, _, [], [], rfl, o13, ⟨⟨by simp, by simp⟩, by simp⟩, ⟨by simp, by simp⟩, by simp⟩ ?_ ?_
  · rintro i σ H9 hi ⟨v6, v10, v11, v12, ek, ck, rfl, o, ⟨oe, le⟩, oc, lc⟩
    have lc' := lc
    show tSeq (tIfS _ _ _) _ _ [some (.ref s), some (.ref h), some (.int pl), some (.int pg), some (.int wd), some (.ref p), some (.int (0 + (i : Int))), v7, some (.ref en), some (.ref co), v10, v11, v12, none] H9
    refine seq_use (fun σ H' => ∃ v10 ek, σ = [some (.ref s), some (.ref h), some (.int pl), some (.int pg), some (.int wd), some (.ref p), some (.int (0 + (i : Int))), v7, some (.ref en), some (.ref co), v10, v11, v12, none] ∧
      Own s c H H' ((co, .dK ck) :: (en, .dK ek) :: tabO d1 d2 d3 p ks kl [([], .int un)]) ∧ (OkE H' wd ek ∧ ek.length ≤ i + 1) ∧ OkC H' is r wd ck) (fun D' hD' => ?_) ?_
    · refine draw1 o (fun _ q => ⟨_, rfl, q⟩) (by omega) fun z H10 o t _ _ => ?_
      replace oe := oe.mono t
      replace oc := oc.mono t
      refine ⟨_, _, rfl, rfl, _, rfl, ite2 (fun _ => ?_) fun _ => ?_⟩
      · refine draw_str o ["rwx", "rwx", "rx", "rw", "r", "x", "wx", ""] (fun _ q => q) rfl (fun _ _ q => ⟨_, rfl, q⟩) (by decide) (by decide) fun x H11 hx o t => ?_
        replace oe := oe.mono t
        replace oc := oc.mono t
        dsimp only [gName, sDPut, tTup, tCons]
        refine draw1 (n := 4) o (fun _ q => ⟨_, rfl, q⟩) (by omega) fun n H12 o t n0 _ => ?_
        replace oe := oe.mono t
        replace oc := oc.mono t
        refine draw_str o ["all", "all", "system"] (fun _ q => q) rfl (fun _ _ q => ⟨_, rfl, q⟩) (by decide) (by decide) fun y H13 hy o t => ?_
        replace oe := oe.mono t
        replace oc := oc.mono t
        refine ⟨_, rfl, by show 3 ≤ sizeLine; omega, fun t ht => ?_⟩
        have o14 := o.add (u := .tup [.int n, .str y, .str x]) ht
        replace oe := oe.mono (Tps.new (o := .tup [.int n, .str y, .str x]) ht)
        replace oc := oc.mono (Tps.new (o := .tup [.int n, .str y, .str x]) ht)
        have et := o14.at 0 rfl
        refine ⟨_, rfl, _, rfl, en, _, rfl, DPut.k (k := Sum.inl (0 + (i : Int))) (o14.at 2 rfl) (by omega), hD' _ _ ⟨_, _, rfl, (o14.set 2 rfl).tail, ?_⟩⟩
        have tp := o14.tset (u' := .dK (putK ek (Sum.inl (0 + (i : Int))) (.ref t))) 2 rfl fun _ z => by cases z
        refine ⟨⟨?_, ?_⟩, oc.mono tp⟩
        · exact (oe.put (by omega) (by omega) (by omega) (.t et (.cons (.i _) (.cons (.s _) (.cons (.s _) .nil)))) n0 (some_in _ hy) (right_in _ hx)).mono tp
        · have := length_putK ek (Sum.inl (0 + (i : Int))) (.ref t)
          omega
      · exact hD' _ _ ⟨_, _, rfl, o, ⟨oe, by omega⟩, oc⟩
    rintro σ H10 ⟨v10', ek', rfl, o, ⟨oe, le⟩, oc⟩
    have eh := o.old nh hh
    refine ⟨_, rfl, h, .ref il, rfl, .inl ⟨_, Sum.inr "instructions", .inl eh, rfl, rfl⟩, by show 0 ≤ sizeLine; omega, fun L hL => ?_⟩
    have o1 := o.add (u := .lst []) hL
    have hL' := Tps.new (o := .lst []) hL
    refine ⟨il, L, us, rfl, rfl, .inl (.inl (o1.old nil eil)), .inl (.inl (o1.at 0 rfl)), _, rfl, iP une ?_⟩
    replace o := o1.tail
    replace oe := oe.mono hL'
    replace oc := oc.mono hL'
    refine draw1 (n := 5) o (fun _ q => ⟨_, rfl, q⟩) (by omega) fun z H11 o t _ _ => ?_
    replace oe := oe.mono t
    replace oc := oc.mono t
    refine ⟨_, _, rfl, rfl, _, rfl, ite2 (fun _ => ?_) fun _ => ?_⟩
    · refine ⟨_, rfl, h, .ref il, rfl, .inl ⟨_, Sum.inr "instructions", .inl (o.old nh hh), rfl, rfl⟩, ?_⟩
      refine draw1 (n := us.length) o (fun _ q => ⟨_, rfl, _, rfl, h, .ref il, rfl, .inl ⟨_, Sum.inr "instructions", .inl (o.old nh hh), rfl, rfl⟩, il, us, rfl, .inl (.inl (.inl (o.old nil eil))), q⟩) (by omega) fun j H12 o t j0 j1 => ?_
      replace oe := oe.mono t
      replace oc := oc.mono t
      obtain ⟨j, rfl⟩ := Int.eq_ofNat_of_zero_le j0
      have hj : j < us.length := by omega
      have hji : j < is.length := by omega
      obtain ⟨d, hd, td⟩ := TDs.get' (tis.mono (o.tp0 hs)) (List.getElem?_eq_getElem hj)
      rw [List.getElem?_map, List.getElem?_eq_getElem hji] at hd
      have hin : is[j] ∈ is := List.getElem_mem hji
      have iok := gi.ok _ hin
      have iof := insOf_mem gi.nd hin
      cases hd
      generalize is[j] = ins at td iok iof
      obtain ⟨a, v2, v3, ea, hea, _, _⟩ := Ins.cases td
      refine ⟨il, us, _, _, rfl, rfl, .inl (.inl (o.old nil eil)), atI_nat (List.getElem?_eq_getElem hj), 2, rfl, a, _, ea, .inl (.inl hea), by show ¬ (HT.sIx 4 0 none = 0 ∧ HT.sIx 4 4 (some 2) = 4); decide, fun q2 hq2 => ?_⟩
      have o13 := o.add (u := .tup [.str ins.nm, .int ins.n]) hq2
      replace oe := oe.mono (Tps.new (o := .tup [.str ins.nm, .int ins.n]) hq2)
      replace oc := oc.mono (Tps.new (o := .tup [.str ins.nm, .int ins.n]) hq2)
      have n3 : ins.n ≤ 3 := by
        simp only [Ins.ok, Bool.and_eq_true, decide_eq_true_eq] at iok
        exact iok.1.1.2
      refine ⟨q2, [.str ins.nm, .int ins.n], rfl, .inl (.inl (o13.at 0 rfl)), rfl, _, _, rfl, _, _, rfl, rfl, ?_⟩
      dsimp only
      show sDPut _ _ _ _ [some (.ref s), some (.ref h), some (.int pl), some (.int pg), some (.int wd), some (.ref p), some (.int (0 + (i : Int))), v7, some (.ref en), some (.ref co), v10', some (.str ins.nm), some (.int ins.n), none] _
      dsimp only [sDPut, tTup, tCons, tCB]
      refine ⟨_, rfl, ?_⟩
      refine draw_lc (fun n => n = ins.n) (fun v => 0 ≤ v ∧ v < r) (fun n hn => by omega) (fun R q => ⟨_, rfl, _, rfl, by omega, by omega, q _ _ (by omega) o13 (Tps.refl _)⟩) ?_ (fun j H1 l1 R o1 kk => ?_) fun ns D H14 ln hp o t => ?_
      · exact fun _ => rfl
      · exact draw1 (n := r) o1 (fun _ q => ⟨_, rfl, _, rfl, h, .int r, rfl, .inl ⟨_, Sum.inr "registers", .inl (o1.old nh hh), rfl, rfl⟩, q⟩) (by omega) fun v H2 o2 t2 v0 v1 => kk v H2 o2 t2 ⟨v0, by omega⟩
      replace oe := oe.mono t
      replace oc := oc.mono t
      refine ⟨D, _, rfl, .inl ⟨.inl (.inl (o.at 0 rfl)), fun t1 ht1 => ?_⟩⟩
      have o15 := o.add (u := .tup (ns.map V.int)) ht1
      replace oe := oe.mono (Tps.new (o := .tup (ns.map V.int)) ht1)
      replace oc := oc.mono (Tps.new (o := .tup (ns.map V.int)) ht1)
      refine ⟨by show 2 ≤ sizeLine; omega, fun t2 ht2 => ?_⟩
      have o16 := o15.add (u := .tup [.str ins.nm, .ref t1]) ht2
      replace oe := oe.mono (Tps.new (o := .tup [.str ins.nm, .ref t1]) ht2)
      replace oc := oc.mono (Tps.new (o := .tup [.str ins.nm, .ref t1]) ht2)
      have td2 : TD' (upd (upd H14 t1 (.tup (ns.map V.int))) t2 (.tup [.str ins.nm, .ref t1])) (.t [.s ins.nm, .t (ns.map W73.D.i)]) (.ref t2) := .t (o16.at 0 rfl) (.cons (.s _) (.cons (.t (o16.at 1 rfl) (TDs.of_ints ns)) .nil))
      refine ⟨_, rfl, _, rfl, co, _, rfl, DPut.k (k := Sum.inl (0 + (i : Int))) (o16.at 4 rfl) (by omega), _, _, _, _, _, _, rfl, (o16.set 4 rfl).tail.tail.tail.tail, ?_⟩
      have tp := o16.tset (u' := .dK (putK ck (Sum.inl (0 + (i : Int))) (.ref t2))) 4 rfl fun _ z => by cases z
      refine ⟨⟨oe.mono tp, le⟩, ?_, ?_⟩
      · exact (oc.put (by omega) (by omega) (by omega) td2 iof (by omega) hp).mono tp
      · have := length_putK ck (Sum.inl (0 + (i : Int))) (.ref t2)
        omega
    · exact ⟨_, _, _, _, _, _, rfl, o, ⟨oe, le⟩, oc, by omega⟩
  · rintro σ H9 ⟨v6, v10, v11, v12, ek, ck, rfl, o, ⟨oe, le⟩, oc, lc⟩
    clear o13
    have eh := o.old nh hh
    have nhs : h ∈ [s, c, h] := by simp
    refine ⟨_, rfl, .inr (.inr (.inl ⟨rfl, .inl ⟨_, eh⟩⟩)), fun q hq => ?_⟩
    have o1 := o.add (u := .dK []) hq
    refine ⟨_, rfl, _, rfl, _, rfl, _, rfl, _, rfl, _, rfl, upd_same, [(Sum.inr "places", .int pl), (Sum.inr "pages", .int pg), (Sum.inr "words", .int wd), (Sum.inr "tables", .ref p), (Sum.inr "entries", .ref en), (Sum.inr "code", .ref co)], rfl, by show 6 ≤ 15; omega, ?_⟩
    have o2 := o1.set (u' := .dK (mergeK [] [(Sum.inr "places", .int pl), (Sum.inr "pages", .int pg), (Sum.inr "words", .int wd), (Sum.inr "tables", .ref p), (Sum.inr "entries", .ref en), (Sum.inr "code", .ref co)])) 0 rfl
    have eh2 := o2.old nh hh
    have nhq : h ≠ q := fun z => by
      rw [← z, eh] at hq
      cases hq
    refine ⟨h, q, _, _, rfl, rfl, nhq, eh2, o2.at 0 rfl, by show 5 + 6 ≤ sizeLine; omega, ?_⟩
    subst hwd
    have tp2 : Tps H9 (upd (upd H9 q (.dK [])) q (.dK (mergeK [] (houseC pl pg p en co)))) := (Tps.new hq).trans (o1.tset 0 rfl fun _ z => by cases z)
    replace o2 : Own s c H (upd (upd H9 q (.dK [])) q (.dK (mergeK [] (houseC pl pg p en co)))) ((q, _) :: (co, .dK ck) :: (en, .dK ek) :: tabO d1 d2 d3 p ks kl [([], .int un)]) := o2
    replace eh2 : (upd (upd H9 q (.dK [])) q (.dK (mergeK [] (houseC pl pg p en co)))) h = some (.dK (houseA r il ca po bk)) := eh2
    show tSeq _ _ _ _ (upd (upd (upd H9 q (.dK [])) q (.dK (mergeK [] (houseC pl pg p en co)))) h (.dK (mergeK (houseA r il ca po bk) (mergeK [] (houseC pl pg p en co)))))
    rw [merge_house]
    replace oe := oe.mono tp2
    replace oc := oc.mono tp2
    generalize upd (upd H9 q (.dK [])) q (.dK (mergeK [] (houseC pl pg p en co))) = H10 at o2 eh2 oe oc ⊢
    clear tp2 o1 o hq eh
    have e1 := o2.at' (o' := .dK (houseA r il ca po bk ++ houseC pl pg p en co)) hh 1 rfl
    have e2 := o2.at' (o' := .dK (houseA r il ca po bk ++ houseC pl pg p en co)) hh 2 rfl
    have e3 := o2.at' (o' := .dK (houseA r il ca po bk ++ houseC pl pg p en co)) hh 3 rfl
    have e4 := o2.at' (o' := .dK (houseA r il ca po bk ++ houseC pl pg p en co)) hh 4 rfl
    have e5 := o2.at' (o' := .dK (houseA r il ca po bk ++ houseC pl pg p en co)) hh 5 rfl
    have e6 := o2.at' (o' := .dK (houseA r il ca po bk ++ houseC pl pg p en co)) hh 6 rfl
    have tp3 : Tps H10 (upd H10 h (.dK (houseA r il ca po bk ++ houseC pl pg p en co))) := Tps.put eh2 fun _ z => by cases z
    replace oe := oe.mono tp3
    replace oc := oc.mono tp3
    have s11 : Src s c (upd H10 h (.dK (houseA r il ca po bk ++ houseC pl pg p en co))) := o2.1.put nh
    have f11 : Same (Wo [s, c, h] H) (Wo [s, c, h] (upd H10 h (.dK (houseA r il ca po bk ++ houseC pl pg p en co)))) := (Wo.more o2.2.1 (by simp)).trans (by rw [Wo.put nhs]; exact Same.refl _)
    have eh11 : (upd H10 h (.dK (houseA r il ca po bk ++ houseC pl pg p en co))) h = some (.dK (houseA r il ca po bk ++ houseC pl pg p en co)) := upd_same
    generalize upd H10 h (.dK (houseA r il ca po bk ++ houseC pl pg p en co)) = H11 at e1 e2 e3 e4 e5 e6 oe oc s11 f11 eh11 ⊢
    clear o2 eh2 tp3
    refine ⟨_, rfl, h, .ref bk, rfl, .inl ⟨_, Sum.inr "book", .inl eh11, rfl, rfl⟩, _, rfl, _, rfl, _, rfl, _, rfl, _, rfl, fun y dy hy hdy ndy => ?_⟩
    have mk : Same H11 (upd (upd H11 dy (.own y)) y (.ins (C_Meaning K) dy [])) := fun b u e => (upd_ne (fun z => by rw [z, hy] at e; cases e)).trans ((upd_ne (fun z => by rw [z, hdy] at e; cases e)).trans e)
    have bk11 : BookAt K H11 bk r is := (hbk.same f11).same Wo.to
    have ta11 : TabsAt (Wo [s, c, h] H11) p (tab3 ks kl [([], .int un)]) := ⟨d1, d2, d3, e6, e5, by rw [tab3_2]; exact e4, by rw [tab3_3]; exact e3⟩
    have ot : OkTabs (pl * pg) (tab3 ks kl [([], .int un)]) := ⟨oks, by rw [tab3_2]; exact okl, by
      rw [tab3_3]
      exact ⟨by simp, fun p hp => by
        simp at hp
        subst hp
        exact ⟨[], un, rfl, rfl, by simp, u0, by omega⟩⟩⟩
    refine ⟨_, _, _, _, _, _, _, rfl, y, dy, bk, r, is, pl, pg, p, _, en, ek, co, ck, rfl, upd_same, rfl, rfl, rfl, rfl, rfl, rfl, ⟨bk11.same mk, gi, by omega, by omega, by omega, q5, w6, (ta11.same Wo.to).same mk, ot, mk _ _ (Wo.to _ _ e2), oe.mono (.of mk), mk _ _ (Wo.to _ _ e1), oc.mono (.of mk)⟩, fun H12 gd b12 g1 g2 g3 g4 gok hM => ⟨rfl, ?_⟩⟩
    have m12 : Same H11 H12 := Bt.made hy hdy b12
    subst g1 g2 g3 g4
    refine ⟨_, rfl, h, _, rfl, DPut.k (k := Sum.inr "meaning") (m12 _ _ eh11) (by show 11 < sizeLine; omega), _, rfl, ?_⟩
    rw [put_house]
    have f12 : Same (Wo [s, c, h] H12) (Wo [s, c, h] (upd H12 h (.dK (houseB gd.r il ca po bk gd.pl gd.pg p en co y)))) := by
      rw [Wo.put nhs]
      exact Same.refl _
    have f13 := (f11.trans (Wo.mono m12)).trans f12
    have sb : Same (Wo [s, c, h] (upd H12 h (.dK (houseB gd.r il ca po bk gd.pl gd.pg p en co y)))) (Wo [s, c] (upd H12 h (.dK (houseB gd.r il ca po bk gd.pl gd.pg p en co y)))) := Wo.sub (by simp)
    refine k _ gd ((s11.same m12).put nh) f13 ⟨⟨il, ca, po, bk, p, en, co, y, _, Wo.at upd_same nh, ?_, (hbk.same f13).same sb, (((ta11.same (Wo.mono m12)).same f12).same sb), ot, ?_⟩, gok, ne, r2, r4, p3, p5, q2⟩
    · exact ⟨us, sb _ _ (f13 _ _ eil0), tis'.mono (.of (f13.trans sb))⟩
    · refine hM.same (((Nt.wo (S := [s, c, h]) fun x hx => ?_).trans f12).trans sb)
      obtain ⟨_, _, _, _, w1, w2, _⟩ := s11
      simp only [List.mem_cons, List.not_mem_nil, or_false] at hx
      rcases hx with rfl | rfl | rfl
      · exact ⟨_, mk _ _ w1, by simp, by simp⟩
      · exact ⟨_, mk _ _ w2, by simp, by simp⟩
      · exact ⟨_, mk _ _ eh11, by simp, by simp⟩
end
end W73
set_option Elab.async false
set_option linter.all false
set_option maxRecDepth 100000
set_option maxHeartbeats 4000000
namespace W73
open PySem PySem.Spec PyProof.Rows L2
open C8 (Cal Met Mak pe_c pe_mk pe_mt pe_mt0 pe_gc pss_cut tCut)
section
variable {P : Program} {w : World} {K : PySem.W.Frag} {mg : Str → Option Value} {base : Heap}
theorem merge_eased {r : Int} {il ca po bk : Addr} {pl pg : Int} {tb en co m en' co' : Addr} : mergeK (houseB r il ca po bk pl pg tb en co m) (mergeK [] [(Sum.inr "entries", .ref en'), (Sum.inr "code", .ref co')]) = houseB r il ca po bk pl pg tb en' co' m := rfl
theorem put_eased {r : Int} {il ca po bk : Addr} {pl pg : Int} {tb en co m m' : Addr} : putK (houseB r il ca po bk pl pg tb en co m) (Sum.inr "meaning") (.ref m') = houseB r il ca po bk pl pg tb en co m' := rfl
theorem if_t {c : Bool} {a b : Str} {σ : L2.St} {H : Hp} {Q : VK} (h : ∀ x, x = a ∨ x = b → Q (.str x) H) : if c = true then tC (.str a) σ H Q else tC (.str b) σ H Q := by
  cases c
  · exact h b (.inr rfl)
  · exact h a (.inl rfl)
theorem wo_not {S : List Addr} {H : Hp} {x : Addr} {u : HO} (e : Wo S H x = some u) : x ∉ S := fun z => by
  simp only [Wo, z, if_true] at e
  cases e
def sp_eased (K : PySem.W.Frag) : Sp := sp2 fun a b H Q => ∃ s c h g, a = .ref s ∧ Src s c H ∧ b = .ref h ∧ Hs K (Wo [s, c] H) h g ∧ ∀ H' h' g', Src s c H' → Same (Wo [s, c] H) (Wo [s, c] H') → Hs K (Wo [s, c] H') h' g' → Q (.ref h') H'
theorem ok_eased (T : Tz P w K mg) : Cal P w K mg base 9 "_law_eased" (sp_eased K) [] := by
  have c_law_pick : Cal P w K mg base 1 "_law_pick" sp_pick [] := ok_pick T
  have c_Meaning : Mak P w K mg base 7 "Meaning" (C_Meaning K) (sp_Meaning_init K) [] := ok_Meaning_init T
  refine mk_law_eased T.toTx len2 fun f cdv A outer s H vs Q E hr h => ?_
  obtain ⟨_, _, rfl, s, c, h, g, rfl, hs, rfl, X, k⟩ := h
  have hu := hu_of hr
  have hz := sizeL
  obtain ⟨⟨il, ca, po, bk, tb, en0, co0, m0, tf, hh', ⟨us, eil0, tis'⟩, hbk, hta, hot, _⟩, gok, ne, r2, r4, p3, p5, q2⟩ := X
  have gi := gok.gi
  have q5 := gok.pg1
  have w6 := gok.six
  have w25 : g.pl * g.pg ≤ 25 := by
    have := Int.mul_le_mul p5 (Int.le_trans q5 p5) (by omega) (by omega)
    omega
  have nh := wo_not hh'
  have hh := Wo.to _ _ hh'
  have nil := wo_not eil0
  have eil := Wo.to _ _ eil0
  have tis := tis'.mono (.of Wo.to)
  have lus := tis.length
  rw [List.length_map] at lus
  have lis := gi.le
  have pis : 0 < g.is.length := List.length_pos_iff.mpr ne
  have hg : ∀ {x : Str} {v : V} {H' : Hp} {l : List (Addr × HO)}, Own s c H H' l → valV (houseB g.r il ca po bk g.pl g.pg tb en0 co0 m0) (Sum.inr x) = some v → DGet H' h (.str x) (some v) := fun o e => .inl ⟨_, Sum.inr _, .inl (o.old nh hh), rfl, e.symm⟩
  have o0 := Own.start hs
  refine ⟨_, (pss_cons (ps_par (i := 2) (j := 3) rfl sc_law_eased.nd rfl rfl (by decide) rfl rfl (pa_cons pe_dnewK (pa_cons pe_dnewK pa_nil)) (by rfl))
    (pss_cons (ps_for PassesOwn.never rfl (pi_range1 (by rfl) T.b_range (pa_cons (pe_dget hu (pv 1) pe_str (fun _ _ => rfl)) pa_nil)) (pg_name (i := 4) sc_law_eased.nd rfl (Or.inl rfl)) (pss_cons (ps_dput hu (pv 2) (pv 4) (pe_tup (pa_cons (pe_c c_law_pick hr (by first | decide | omega) rfl (pa_cons (pv 0) (pa_cons pe_int pa_nil))) (pa_cons (pe_ifExp (pt_cmpR op_gt (pe_c c_law_pick hr (by first | decide | omega) rfl (pa_cons (pv 0) (pa_cons pe_int pa_nil))) pe_int (nomark _)) pe_str pe_str) (pa_cons pe_str pa_nil)))) rfl)
    (pss_cons (ps_asg (pe_slice sl_tup (pe_ix ix_list (pe_dget hu (pv 1) pe_str (fun _ _ => rfl)) (pe_c c_law_pick hr (by first | decide | omega) rfl (pa_cons (pv 0) (pa_cons (pe_callB call_len_seq (by rfl) T.b_len PySem.boot_len (pa_cons (pe_dget hu (pv 1) pe_str (fun _ _ => rfl)) pa_nil)) pa_nil))) (fun _ _ => rfl)) po_none (po_some pe_int)) (pg_tup rfl (pgs_cons (pg_name (i := 5) sc_law_eased.nd rfl (Or.inl rfl)) (pgs_cons (pg_name (i := 6) sc_law_eased.nd rfl (Or.inl rfl)) pgs_nil))))
    (pss_one (ps_dput hu (pv 3) (pv 4) (pe_tup (pa_cons (pv 5) (pa_cons (pe_callTy call_tuple_of (by rfl) T.b_tuple boot_tuple (pa_cons (pe_lc  (own := [("_law_k", 8)]) (g := gName 8) (tt := tYes) rfl sc_law_eased.nd (pi_range1 (by rfl) T.b_range (pa_cons (pv 6) pa_nil)) (blkOk_by (N := ["_law_source_here", "_law_house_here", "_law_entries", "_law_code", "_law_word", "_law_name", "_law_operands", "_law_found", "_law_k"]) (sc := defScope s_law_eased) (by decide +kernel)) (fun _ _ _ _ _ => (pg_name (i := 8) sc_law_eased.nd rfl (Or.inl rfl))) (fun _ _ _ _ _ => pts_nil) (fun _ _ _ _ _ => (pe_c c_law_pick hr (by first | decide | omega) rfl (pa_cons (pv 0) (pa_cons (pe_dget hu (pv 1) pe_str (fun _ _ => rfl)) pa_nil))))) pa_nil)) pa_nil))) rfl)))))
    (pss_cons (ps_set (i := 7) sc_law_eased.nd rfl (Or.inl rfl) (pe_callTy call_dictD (by rfl) T.b_dict boot_dict (pa_cons (pv 1) pa_nil)))
    (pss_cons (ps_expr (pe_bm PySem.F.plainAttrs_dict PySem.F.slot_dict_update PySem.F.type_dict_update mt_update (pv 7) (pa_cons (pe_disp (pps_cons pe_str (pv 2) (pps_cons pe_str (pv 3) pps_nil)) (by rfl) (by rfl) (fun z => by cases z) (by decide)) pa_nil)))
    (pss_cons (ps_dput hu (pv 7) pe_str (pe_mk c_Meaning hr (by first | decide | omega) rfl (pa_cons (pe_dget hu (pv 1) pe_str (fun _ _ => rfl)) (pa_cons (pe_dget hu (pv 1) pe_str (fun _ _ => rfl)) (pa_cons (pe_dget hu (pv 1) pe_str (fun _ _ => rfl)) (pa_cons (pe_dget hu (pv 1) pe_str (fun _ _ => rfl)) (pa_cons (pv 2) (pa_cons (pv 3) pa_nil))))))) rfl)
    (pss_one (ps_ret (pv 7)))))))), ?_⟩
  intro en hen co hco
  have o1 := (o0.add (u := .dK []) hen).add (u := .dK []) hco
  refine ⟨_, _, rfl, ?_⟩
  dsimp only
  show tSeq (tFor _ _ _) _ _ [some (.ref s), some (.ref h), some (.ref en), some (.ref co), none, none, none, none, none] (upd (upd H en (.dK [])) co (.dK []))
  generalize upd (upd H en (.dK [])) co (.dK []) = H1 at o1 ⊢
  clear hen hco
  refine ⟨_, rfl, h, _, rfl, hg o1 rfl, _, rfl, by omega, by omega, ?_⟩
  generalize hwd : g.pl * g.pg = wd at w6 w25 ⊢
  refine for_range (lo := 0) (n := _) (fun i σ H' => ∃ v4 v5 v6 ek ck, σ = [some (.ref s), some (.ref h), some (.ref en), some (.ref co), v4, v5, v6, none, none] ∧
    Own s c H H' [(co, .dK ck), (en, .dK ek)] ∧ (OkE H' wd ek ∧ ek.length ≤ i) ∧ OkC H' g.is g.r wd ck ∧ ck.length ≤ i) ⟨_, _, _, [], [], rfl, o1, ⟨⟨by simp, by simp⟩, by simp⟩, ⟨by simp, by simp⟩, by simp⟩ ?_ ?_
  · rintro i σ H9 hi ⟨v4, v5, v6, ek, ck, rfl, o, ⟨oe, le⟩, oc, lc⟩
    show tSeq (sDPut _ _ _) _ _ [some (.ref s), some (.ref h), some (.ref en), some (.ref co), some (.int (0 + (i : Int))), v5, v6, none, none] H9
    dsimp only [tSeq, sDPut, tTup, tCons]
    refine draw1 (n := 2) o (fun _ q => ⟨_, rfl, q⟩) (by omega) fun n H10 o t n0 _ => ?_
    replace oe := oe.mono t
    replace oc := oc.mono t
    refine draw1 (n := 4) o (fun _ q => ⟨_, rfl, q⟩) (by omega) fun z H11 o t _ _ => ?_
    replace oe := oe.mono t
    replace oc := oc.mono t
    refine ⟨_, _, rfl, rfl, _, rfl, if_t fun y hy => ?_⟩
    have hy2 : y ∈ (["all", "system"] : List Str) := by
      rcases hy with rfl | rfl <;> decide
    refine ⟨by show 3 ≤ sizeLine; omega, fun t ht => ?_⟩
    have o14 := o.add (u := .tup [.int n, .str y, .str "rwx"]) ht
    replace oe := oe.mono (Tps.new (o := .tup [.int n, .str y, .str "rwx"]) ht)
    replace oc := oc.mono (Tps.new (o := .tup [.int n, .str y, .str "rwx"]) ht)
    have et := o14.at 0 rfl
    refine ⟨_, rfl, _, rfl, en, _, rfl, DPut.k (k := Sum.inl (0 + (i : Int))) (o14.at 2 rfl) (by omega), ?_⟩
    have o15 := (o14.set (u' := .dK (putK ek (Sum.inl (0 + (i : Int))) (.ref t))) 2 rfl).tail
    have tp := o14.tset (u' := .dK (putK ek (Sum.inl (0 + (i : Int))) (.ref t))) 2 rfl fun _ z => by cases z
    replace oe := (oe.put (k := 0 + (i : Int)) (by omega) (by omega) (by omega) (.t et (.cons (.i _) (.cons (.s _) (.cons (.s _) .nil)))) n0 hy2 (by decide +kernel)).mono tp
    replace oc := oc.mono tp
    have le2 := length_putK ek (Sum.inl (0 + (i : Int))) (.ref t)
    replace le : (putK ek (Sum.inl (0 + (i : Int))) (.ref t)).length ≤ i + 1 := by omega
    generalize putK ek (Sum.inl (0 + (i : Int))) (.ref t) = ek' at oe oc o15 le ⊢
    replace o : Own s c H _ [(co, .dK ck), (en, .dK ek')] := o15
    generalize upd (upd H11 t (.tup [.int n, .str y, .str "rwx"])) en (.dK ek') = H12 at o oe oc ⊢
    clear o14 et o15 tp le2
    refine ⟨_, rfl, h, .ref il, rfl, hg o rfl, ?_⟩
    refine draw1 (n := us.length) o (fun _ q => ⟨_, rfl, _, rfl, h, .ref il, rfl, hg o rfl, il, us, rfl, .inl (.inl (.inl (o.old nil eil))), q⟩) (by omega) fun j H13 o t j0 j1 => ?_
    replace oe := oe.mono t
    replace oc := oc.mono t
    obtain ⟨j, rfl⟩ := Int.eq_ofNat_of_zero_le j0
    have hj : j < us.length := by omega
    have hji : j < g.is.length := by omega
    obtain ⟨d, hd, td⟩ := TDs.get' (tis.mono (o.tp0 hs)) (List.getElem?_eq_getElem hj)
    rw [List.getElem?_map, List.getElem?_eq_getElem hji] at hd
    have hin : g.is[j] ∈ g.is := List.getElem_mem hji
    have iok := gi.ok _ hin
    have iof := insOf_mem gi.nd hin
    cases hd
    generalize g.is[j] = ins at td iok iof
    obtain ⟨a, v2, v3, ea, hea, _, _⟩ := Ins.cases td
    refine ⟨il, us, _, _, rfl, rfl, .inl (.inl (o.old nil eil)), atI_nat (List.getElem?_eq_getElem hj), 2, rfl, a, _, ea, .inl (.inl hea), by show ¬ (HT.sIx 4 0 none = 0 ∧ HT.sIx 4 4 (some 2) = 4); decide, fun q2 hq2 => ?_⟩
    have o13 := o.add (u := .tup [.str ins.nm, .int ins.n]) hq2
    replace oe := oe.mono (Tps.new (o := .tup [.str ins.nm, .int ins.n]) hq2)
    replace oc := oc.mono (Tps.new (o := .tup [.str ins.nm, .int ins.n]) hq2)
    have n3 : ins.n ≤ 3 := by
      simp only [Ins.ok, Bool.and_eq_true, decide_eq_true_eq] at iok
      exact iok.1.1.2
    refine ⟨q2, [.str ins.nm, .int ins.n], rfl, .inl (.inl (o13.at 0 rfl)), rfl, _, _, rfl, _, _, rfl, rfl, ?_⟩
    dsimp only [sDPut, tTup, tCons, tCB]
    refine ⟨_, rfl, ?_⟩
    dsimp only [tCons, tCB]
    refine draw_lc (fun n => n = ins.n) (fun v => 0 ≤ v ∧ v < g.r) (fun n hn => by omega) (fun R q => ⟨_, rfl, _, rfl, by omega, by omega, q _ _ (by omega) o13 (Tps.refl _)⟩) ?_ (fun j H1 l1 R o1 kk => ?_) fun ns D H14 ln hp o t => ?_
    · exact fun _ => rfl
    · exact draw1 (n := g.r) o1 (fun _ q => ⟨_, rfl, _, rfl, h, .int g.r, rfl, hg o1 rfl, q⟩) (by omega) fun v H2 o2 t2 v0 v1 => kk v H2 o2 t2 ⟨v0, by omega⟩
    replace oe := oe.mono t
    replace oc := oc.mono t
    refine ⟨D, _, rfl, .inl ⟨.inl (.inl (o.at 0 rfl)), fun t1 ht1 => ?_⟩⟩
    have o15 := o.add (u := .tup (ns.map V.int)) ht1
    replace oe := oe.mono (Tps.new (o := .tup (ns.map V.int)) ht1)
    replace oc := oc.mono (Tps.new (o := .tup (ns.map V.int)) ht1)
    refine ⟨by show 2 ≤ sizeLine; omega, fun t2 ht2 => ?_⟩
    have o16 := o15.add (u := .tup [.str ins.nm, .ref t1]) ht2
    replace oe := oe.mono (Tps.new (o := .tup [.str ins.nm, .ref t1]) ht2)
    replace oc := oc.mono (Tps.new (o := .tup [.str ins.nm, .ref t1]) ht2)
    have td2 : TD' (upd (upd H14 t1 (.tup (ns.map V.int))) t2 (.tup [.str ins.nm, .ref t1])) (.t [.s ins.nm, .t (ns.map W73.D.i)]) (.ref t2) := .t (o16.at 0 rfl) (.cons (.s _) (.cons (.t (o16.at 1 rfl) (TDs.of_ints ns)) .nil))
    refine ⟨_, rfl, _, rfl, co, _, rfl, DPut.k (k := Sum.inl (0 + (i : Int))) (o16.at 4 rfl) (by omega), _, _, _, _, _, rfl, (o16.set 4 rfl).tail.tail.tail.tail, ?_⟩
    have tp := o16.tset (u' := .dK (putK ck (Sum.inl (0 + (i : Int))) (.ref t2))) 4 rfl fun _ z => by cases z
    refine ⟨⟨oe.mono tp, le⟩, ?_, ?_⟩
    · exact (oc.put (by omega) (by omega) (by omega) td2 iof (by omega) hp).mono tp
    · have := length_putK ck (Sum.inl (0 + (i : Int))) (.ref t2)
      omega
  · rintro σ H9 ⟨v4, v5, v6, ek, ck, rfl, o, ⟨oe, le⟩, oc, lc⟩
    dsimp only
    have eh := o.old nh hh
    refine ⟨_, rfl, h, _, rfl, .inl eh, fun F hF => ?_⟩
    have o1 := o.add (u := .dK (houseB g.r il ca po bk g.pl g.pg tb en0 co0 m0)) hF
    replace oe := oe.mono (Tps.new (o := .dK (houseB g.r il ca po bk g.pl g.pg tb en0 co0 m0)) hF)
    replace oc := oc.mono (Tps.new (o := .dK (houseB g.r il ca po bk g.pl g.pg tb en0 co0 m0)) hF)
    refine ⟨_, rfl, .inr (.inr (.inl ⟨rfl, .inl ⟨_, o1.at 0 rfl⟩⟩)), fun q hq => ?_⟩
    have o2 := o1.add (u := .dK []) hq
    replace oe := oe.mono (Tps.new (o := .dK []) hq)
    replace oc := oc.mono (Tps.new (o := .dK []) hq)
    refine ⟨_, rfl, _, rfl, upd_same, [(Sum.inr "entries", .ref en), (Sum.inr "code", .ref co)], rfl, by show 2 ≤ 15; omega, ?_⟩
    have o3 := o2.set (u' := .dK (mergeK [] [(Sum.inr "entries", .ref en), (Sum.inr "code", .ref co)])) 0 rfl
    replace oe := oe.mono (o2.tset (u' := .dK (mergeK [] [(Sum.inr "entries", .ref en), (Sum.inr "code", .ref co)])) 0 rfl fun _ z => by cases z)
    replace oc := oc.mono (o2.tset (u' := .dK (mergeK [] [(Sum.inr "entries", .ref en), (Sum.inr "code", .ref co)])) 0 rfl fun _ z => by cases z)
    have nFq : F ≠ q := fun z => by
      have := o1.at 0 rfl
      rw [← z, this] at hq
      cases hq
    refine ⟨F, q, _, _, rfl, rfl, nFq, o3.at 1 rfl, o3.at 0 rfl, by show 12 + 2 ≤ sizeLine; omega, ?_⟩
    rw [merge_eased]
    have o4 := o3.set (u' := .dK (houseB g.r il ca po bk g.pl g.pg tb en co m0)) 1 rfl
    replace oe := oe.mono (o3.tset (u' := .dK (houseB g.r il ca po bk g.pl g.pg tb en co m0)) 1 rfl fun _ z => by cases z)
    replace oc := oc.mono (o3.tset (u' := .dK (houseB g.r il ca po bk g.pl g.pg tb en co m0)) 1 rfl fun _ z => by cases z)
    replace o4 : Own s c H _ [(F, .dK (houseB g.r il ca po bk g.pl g.pg tb en co m0)), (co, .dK ck), (en, .dK ek)] := o4.tail
    generalize upd (upd (upd (upd H9 F (.dK (houseB g.r il ca po bk g.pl g.pg tb en0 co0 m0))) q (.dK [])) q (.dK (mergeK [] [(Sum.inr "entries", .ref en), (Sum.inr "code", .ref co)]))) F (.dK (houseB g.r il ca po bk g.pl g.pg tb en co m0)) = H10 at o4 oe oc ⊢
    clear o o1 o2 o3 eh hF hq
    subst hwd
    dsimp only
    refine ⟨_, rfl, h, .ref bk, rfl, hg o4 rfl, _, rfl, h, .int g.pl, rfl, hg o4 rfl, _, rfl, h, .int g.pg, rfl, hg o4 rfl, _, rfl, h, .ref tb, rfl, hg o4 rfl, _, rfl, _, rfl, fun y dy hy hdy ndy => ?_⟩
    have mk : Same H10 (upd (upd H10 dy (.own y)) y (.ins (C_Meaning K) dy [])) := fun b u e => (upd_ne (fun z => by rw [z, hy] at e; cases e)).trans ((upd_ne (fun z => by rw [z, hdy] at e; cases e)).trans e)
    refine ⟨_, _, _, _, _, _, _, rfl, y, dy, bk, g.r, g.is, g.pl, g.pg, tb, _, en, ek, co, ck, rfl, upd_same, rfl, rfl, rfl, rfl, rfl, rfl, ⟨((hbk.same o4.2.1).same Wo.to).same mk, gi, by omega, by omega, by omega, q5, w6, ((hta.same o4.2.1).same Wo.to).same mk, hot, mk _ _ (o4.at 2 rfl), oe.mono (.of mk), mk _ _ (o4.at 1 rfl), oc.mono (.of mk)⟩, fun H12 gd b12 g1 g2 g3 g4 gok' hM => ⟨rfl, ?_⟩⟩
    have m12 : Same H10 H12 := Bt.made hy hdy b12
    refine ⟨_, rfl, F, _, rfl, DPut.k (k := Sum.inr "meaning") (m12 _ _ (o4.at 0 rfl)) (by show 12 < sizeLine; omega), _, rfl, ?_⟩
    rw [put_eased]
    have o5 := (o4.same m12).set (u' := .dK (houseB g.r il ca po bk g.pl g.pg tb en co y)) 0 rfl
    have nF := (o5.2.2.1 _ (List.mem_cons_self ..)).2.1
    have hM' : MeanAt K (Wo [s, c] (upd H12 F (.dK (houseB g.r il ca po bk g.pl g.pg tb en co y)))) y gd := by
      refine hM.same (((Nt.wo (S := [s, c, F]) fun x hx => ?_).trans (?_ : Same _ (Wo [s, c, F] (upd H12 F (.dK (houseB g.r il ca po bk g.pl g.pg tb en co y)))))).trans (Wo.sub (by simp)))
      · obtain ⟨_, _, _, _, w1, w2, _⟩ := o4.1
        simp only [List.mem_cons, List.not_mem_nil, or_false] at hx
        rcases hx with rfl | rfl | rfl
        · exact ⟨_, mk _ _ w1, by simp, by simp⟩
        · exact ⟨_, mk _ _ w2, by simp, by simp⟩
        · exact ⟨_, mk _ _ (o4.at 0 rfl), by simp, by simp⟩
      · rw [Wo.put (by simp)]
        exact Same.refl _
    refine k _ F gd o5.1 o5.2.1 ⟨⟨il, ca, po, bk, tb, en, co, y, tf, ?_, ?_, ?_, hta.same o5.2.1, ?_, hM'⟩, gok', by rw [g2]; exact ne, by rw [g1]; exact r2, by rw [g1]; exact r4, by rw [g3]; exact p3, by rw [g3]; exact p5, by rw [g4]; exact q2⟩
    · rw [g1, g3, g4]
      exact Wo.at upd_same nF
    · rw [g2]
      exact ⟨us, o5.2.1 _ _ eil0, tis'.mono (.of o5.2.1)⟩
    · rw [g1, g2]
      exact hbk.same o5.2.1
    · have e : gd.wd = g.wd := by
        unfold Gd.wd
        rw [g3, g4]
      rw [e]
      exact hot
end
end W73
set_option Elab.async false
set_option linter.all false
set_option maxRecDepth 100000
set_option maxHeartbeats 4000000
namespace W73
open PySem PySem.Spec PyProof.Rows L2
open C8 (Cal Met Mak pe_c pe_mk pe_mt pe_mt0 pe_gc pss_cut tCut)
section
variable {P : Program} {w : World} {K : PySem.W.Frag} {mg : Str → Option Value} {base : Heap}
theorem Own.grow {s c t : Addr} {H0 H H' : Hp} {l : List (Addr × HO)} {u : HO} (o : Own s c H0 H l) (m : Same H H') (h : H t = none) (e : H' t = some u) : Own s c H0 H' ((t, u) :: l) := by
  have ⟨f1, f2, f3⟩ := o.fresh h
  have o' := o.same m
  refine ⟨o'.1, o'.2.1, fun p hp => ?_, List.nodup_cons.mpr ⟨f3, o.2.2.2⟩⟩
  rcases List.mem_cons.mp hp with rfl | hp
  · exact ⟨e, f2, f1⟩
  · exact o'.2.2.1 p hp
theorem perm_move {α : Type} {l m : List α} {j : Nat} (hj : j < l.length) {z : List α} (h : (l ++ m).Perm z) : (l.eraseIdx j ++ (m ++ [l[j]])).Perm z := by
  refine List.Perm.trans ?_ h
  have h1 : (l[j] :: l.eraseIdx j).Perm l := by
    rw [List.eraseIdx_eq_take_drop_succ]
    have : l = l.take j ++ l[j] :: l.drop (j + 1) := by
      rw [← List.drop_eq_getElem_cons hj, List.take_append_drop]
    conv => rhs; rw [this]
    exact List.perm_middle.symm
  have h2 : (l.eraseIdx j ++ (m ++ [l[j]])).Perm (l[j] :: l.eraseIdx j ++ m) := by
    rw [← List.append_assoc]
    refine (List.perm_append_comm).trans ?_
    simp
  exact h2.trans (h1.append_right m)
theorem TDs.erase {H : Hp} : ∀ {ds : List D} {vs : List V} (j : Nat), TDs H ds vs → TDs H (ds.eraseIdx j) (vs.eraseIdx j)
  | _, _, _, .nil => by simpa using TDs.nil
  | _, _, 0, .cons _ b => by simpa using b
  | _, _, j + 1, .cons a b => by simpa using TDs.cons a (TDs.erase j b)
theorem map_erase {α β : Type} {f : α → β} : ∀ {l : List α} {j : Nat}, (l.eraseIdx j).map f = (l.map f).eraseIdx j
  | [], _ => by simp
  | _ :: _, 0 => by simp
  | _ :: l, j + 1 => by simp [map_erase (l := l) (j := j)]
theorem odd_ok : ∀ x ∈ (["odd", "odder"] : List Str), nameOk x = true := by decide +kernel
theorem cut_pre {xs : List Str} {z : Int} : ∃ k, cutV (xs.map V.str) none (some z) = (xs.take k).map V.str := by
  refine ⟨HT.sIx (xs.map V.str).length (xs.map V.str).length (some z), ?_⟩
  unfold cutV
  rw [HT.sIx_none, List.drop_zero, Nat.sub_zero, List.map_take]
theorem Wo.tp {S : List Addr} {H : Hp} (h : ∀ x ∈ S, ∃ u, H x = some u ∧ (∀ xs, u ≠ .tup xs) ∧ ∀ C d l, u ≠ .ins C d l) : Tps H (Wo S H) := fun b xs e => Wo.at e fun z => by
  obtain ⟨u, e1, n, _⟩ := h b z
  rw [e] at e1
  cases e1
  exact n _ rfl
theorem BookAt.wo {S : List Addr} {H : Hp} {b : Addr} {r : Int} {is : List Ins} (h : ∀ x ∈ S, ∃ u, H x = some u ∧ (∀ xs, u ≠ .tup xs) ∧ ∀ C d l, u ≠ .ins C d l) : BookAt K H b r is → BookAt K (Wo S H) b r is := fun ⟨dx, a1, a2, a3, a4, e, h1, h2, h3, h4⟩ =>
  ⟨dx, a1, a2, a3, a4, Wo.at e fun z => by
    obtain ⟨u, e1, _, n⟩ := h b z
    rw [e] at e1
    cases e1
    exact n _ _ _ rfl, h1.mono (Wo.tp h), h2.mono (Wo.tp h), h3.mono (Wo.tp h), h4.mono (Wo.tp h)⟩
def houseP (r : Int) (il ca po : Addr) : List (Key × V) := [(Sum.inr "registers", .int r), (Sum.inr "instructions", .ref il), (Sum.inr "causes", .ref ca), (Sum.inr "ports", .ref po)]
theorem put_book {r : Int} {il ca po bk : Addr} : putK (houseP r il ca po) (Sum.inr "book") (.ref bk) = houseA r il ca po bk := rfl
def sp_house (K : PySem.W.Frag) : Sp := sp3 fun a b e H Q => ∃ s c m, a = .ref s ∧ Src s c H ∧ b = .bl true ∧ e = .int m ∧ 2 ≤ m ∧ m ≤ 5 ∧ ∀ H' h g, Src s c H' → Same (Wo [s, c] H) (Wo [s, c] H') → Hs K (Wo [s, c] H') h g → Q (.ref h) H'
theorem ok_house (T : Tz P w K mg) : Cal P w K mg base 15 "_law_house" (sp_house K) [] := by
  have c_law_pick : Cal P w K mg base 1 "_law_pick" sp_pick [] := ok_pick T
  have c_law_menu : Cal P w K mg base 1 "_law_menu" sp_menu [] := ok_menu T
  have c_law_drawn_rows : Cal P w K mg base 6 "_law_drawn_rows" (sp_rows 1) [] := ok_drawn T
  have c_law_with_meaning : Cal P w K mg base 9 "_law_with_meaning" (sp_with_meaning K) [] := ok_with_meaning T
  have c_Book : Mak P w K mg base 13 "Book" (C_Book K) (sp_Book_init K) [] := ok_Book_init T
  refine mk_law_house T.toTx len3 fun f cdv A outer s H vs Q E hr h => ?_
  obtain ⟨_, _, _, rfl, s, c, m, rfl, hs, rfl, rfl, m2, m5, k⟩ := h
  have hu := hu_of hr
  have hz := sizeL
  have o0 := Own.start hs
  refine ⟨_, (pss_cons (ps_par (i := 3) (j := 4) rfl sc_law_house.nd rfl rfl (by decide) rfl rfl (pa_cons (pe_c c_law_menu hr (by first | decide | omega) rfl (pa_cons (pv 1) pa_nil)) (pa_cons (pe_lst pa_nil) pa_nil)) (by rfl))
    (pss_cons (ps_while PassesOwn.never (PW.pt (pw_and (pt_cmpR op_lt (pe_callB call_len_seq (by rfl) T.b_len PySem.boot_len (pa_cons (pv 4) pa_nil)) (pv 2) (nomark _)) (pw_and1 (pt_cmpR (op_neLE hr.units0) (pv 3) (pe_lst pa_nil) (nomark _))))) (pss_one (ps_expr (pe_bm PySem.F.plainAttrs_list PySem.F.slot_list_append PySem.F.type_list_append mt_append (pv 4) (pa_cons (pe_bm PySem.F.plainAttrs_list PySem.F.slot_list_pop PySem.F.type_list_pop mt_popAt (pv 3) (pa_cons (pe_c c_law_pick hr (by first | decide | omega) rfl (pa_cons (pv 0) (pa_cons (pe_callB call_len_seq (by rfl) T.b_len PySem.boot_len (pa_cons (pv 3) pa_nil)) pa_nil))) pa_nil)) pa_nil)))))
    (pss_cons (ps_if (pt_val (pv 1)) (pss_one (ps_for PassesOwn.never rfl (pi_list (pe_slice sl_list (pe_lst (pa_cons pe_str (pa_cons pe_str pa_nil))) po_none (po_some (pe_c c_law_pick hr (by first | decide | omega) rfl (pa_cons (pv 0) (pa_cons pe_int pa_nil)))))) (pg_name (i := 5) sc_law_house.nd rfl (Or.inl rfl)) (pss_cons (ps_set (i := 6) sc_law_house.nd rfl (Or.inl rfl) (pe_c c_law_pick hr (by first | decide | omega) rfl (pa_cons (pv 0) (pa_cons pe_int pa_nil))))
    (pss_cons (ps_par (i := 7) (j := 8) rfl sc_law_house.nd rfl rfl (by decide) rfl rfl (pa_cons (pe_c c_law_drawn_rows hr (by first | decide | omega) rfl (pa_cons (pv 0) (pa_cons (pv 6) (pa_cons pe_int (pa_cons pe_int pa_nil))))) (pa_cons (pe_c c_law_drawn_rows hr (by first | decide | omega) rfl (pa_cons (pv 0) (pa_cons (pv 6) (pa_cons pe_int (pa_cons pe_int pa_nil))))) pa_nil)) (by rfl))
    (pss_one (ps_expr (pe_bm PySem.F.plainAttrs_list PySem.F.slot_list_append PySem.F.type_list_append mt_append (pv 4) (pa_cons (pe_tup (pa_cons (pv 5) (pa_cons (pv 6) (pa_cons (pv 7) (pa_cons (pe_ifExp (pt_cmpR op_eq (pe_c c_law_pick hr (by first | decide | omega) rfl (pa_cons (pv 0) (pa_cons pe_int pa_nil))) pe_int (nomark _)) (pv 7) (pv 8)) pa_nil))))) pa_nil)))))))) pss_nil)
    (pss_cons (ps_set (i := 9) sc_law_house.nd rfl (Or.inl rfl) (pe_lst (pa_cons (pe_tup (pa_cons pe_str (pa_cons pe_int pa_nil))) (pa_cons (pe_tup (pa_cons pe_str (pa_cons pe_int pa_nil))) (pa_cons (pe_tup (pa_cons pe_str (pa_cons pe_int pa_nil))) pa_nil)))))
    (pss_cons (ps_set (i := 10) sc_law_house.nd rfl (Or.inl rfl) (pe_disp (pps_cons pe_str (pe_op op_add pe_int (pe_c c_law_pick hr (by first | decide | omega) rfl (pa_cons (pv 0) (pa_cons pe_int pa_nil)))) (pps_cons pe_str (pv 4) (pps_cons pe_str (pe_lst (pa_cons pe_str (pa_cons pe_str pa_nil))) pps_nil))) (by rfl) (by rfl) (fun z => by cases z) (by decide)))
    (pss_cons (ps_dput hu (pv 10) pe_str (pe_lst (pa_cons pe_str (pa_cons pe_str pa_nil))) rfl)
    (pss_cons (ps_dput hu (pv 10) pe_str (pe_mk c_Book hr (by first | decide | omega) rfl (pa_cons (pe_dget hu (pv 10) pe_str (fun _ _ => rfl)) (pa_cons (pv 9) (pa_cons (pe_dget hu (pv 10) pe_str (fun _ _ => rfl)) (pa_cons (pe_dget hu (pv 10) pe_str (fun _ _ => rfl)) (pa_cons (pv 4) pa_nil)))))) rfl)
    (pss_one (ps_ret (pe_c c_law_with_meaning hr (by first | decide | omega) rfl (pa_cons (pv 0) (pa_cons (pv 10) pa_nil)))))))))))), ?_⟩
  refine ⟨_, rfl, _, rfl, rfl, fun L H1 m1 hL l1 => ?_⟩
  obtain ⟨us, eus, tus⟩ := l1
  have o1 := o0.grow m1 hL eus
  refine ⟨by show 0 ≤ sizeLine; omega, fun F hF => ⟨_, _, rfl, ?_⟩⟩
  have o2 := o1.add (u := .lst []) hF
  replace tus := tus.mono (Tps.new (o := .lst []) hF)
  dsimp only
  show tSeq (tWhile _ _) _ _ [some (.ref s), some (.bl true), some (.int m), some (.ref L), some (.ref F), none, none, none, none, none, none] (upd H1 F (.lst []))
  refine while_use (fun σ H' => σ = [some (.ref s), some (.bl true), some (.int m), some (.ref L), some (.ref F), none, none, none, none, none, none] ∧ ∃ (us fs : List V) (lu lf : List Ins), Own s c H H' [(F, .lst fs), (L, .lst us)] ∧ TDs H' (lf.map Ins.d) fs ∧ (lu ++ lf).Perm menuI ∧ 0 < lf.length ∧ lf.length ≤ 5) (fun D' hD' => ?_) fun σ H' ⟨eσ, us, fs, lu, lf, o, tf, pm, l0, l5⟩ => ?_
  · refine ⟨fun j σ H' => σ = [some (.ref s), some (.bl true), some (.int m), some (.ref L), some (.ref F), none, none, none, none, none, none] ∧ ∃ (us fs : List V) (lu lf : List Ins), j = lu.length ∧ Own s c H H' [(F, .lst fs), (L, .lst us)] ∧ TDs H' (lu.map Ins.d) us ∧ TDs H' (lf.map Ins.d) fs ∧ (lu ++ lf).Perm menuI ∧ lf.length ≤ 5, ⟨_, rfl, us, [], menuI, [], rfl, o2, tus, .nil, by simp, by simp⟩, ?_⟩
    rintro _ σ H' ⟨rfl, us, fs, lu, lf, rfl, o, tu, tf, pm, l5⟩
    have nlu := tu.length
    have nlf := tf.length
    rw [List.length_map] at nlu nlf
    have n24 := pm.length_eq
    rw [List.length_append, menu_len] at n24
    have une : (!us.isEmpty) = true := by
      cases us with
      | nil =>
        rw [List.length_nil] at nlu
        omega
      | cons _ _ => rfl
    refine ⟨_, rfl, F, fs, rfl, .inl (.inl (.inl (o.at 0 rfl))), _, rfl, _, _, rfl, rfl, _, rfl, ite2 (fun hlt => ?_) fun hge => ?_⟩
    · have hlt : (fs.length : Int) < m := by simpa using hlt
      refine ⟨_, rfl, by show 0 ≤ sizeLine; omega, fun X hX => ?_⟩
      have o1 := o.add (u := .lst []) hX
      have tX := Tps.new (o := .lst []) hX
      refine ⟨L, X, us, rfl, rfl, .inl (.inl (o1.at 2 rfl)), .inl (.inl (o1.at 0 rfl)), _, rfl, ?_⟩
      rw [une]
      refine ⟨fun σ H' => σ = [some (.ref s), some (.bl true), some (.int m), some (.ref L), some (.ref F), none, none, none, none, none, none] ∧ ∃ (us' fs : List V) (lu' lf : List Ins), lu'.length < lu.length ∧ Own s c H H' [(F, .lst fs), (L, .lst us')] ∧ TDs H' (lu'.map Ins.d) us' ∧ TDs H' (lf.map Ins.d) fs ∧ (lu' ++ lf).Perm menuI ∧ lf.length ≤ 5, fun σ' H'' ⟨a, us', fs', lu', lf', b1, b2⟩ => ⟨_, b1, a, us', fs', lu', lf', rfl, b2⟩, ?_⟩
      replace o := o1.tail
      replace tu := tu.mono tX
      replace tf := tf.mono tX
      refine ⟨_, rfl, .inl ⟨rfl, _, .inl (.inl (o.at 0 rfl))⟩, _, rfl, .inl ⟨rfl, _, .inl (.inl (o.at 1 rfl))⟩, ?_⟩
      dsimp only [tCons]
      refine draw1 (n := us.length) o (fun _ q => ⟨_, rfl, _, rfl, L, us, rfl, .inl (.inl (.inl (o.at 1 rfl))), q⟩) (by omega) fun j H2 o t j0 j1 => ?_
      replace tu := tu.mono t
      replace tf := tf.mono t
      obtain ⟨j, rfl⟩ := Int.eq_ofNat_of_zero_le j0
      have hj : j < us.length := by omega
      have hjl : j < lu.length := by omega
      obtain ⟨d, hd, td⟩ := TDs.get' tu (List.getElem?_eq_getElem hj)
      rw [List.getElem?_map, List.getElem?_eq_getElem hjl] at hd
      cases hd
      refine ⟨L, us, _, j, us[j], rfl, rfl, o.at 1 rfl, by omega, by omega, ?_, List.getElem?_eq_getElem hj, ?_⟩
      · have h0 : ¬ ((j : Nat) : Int) < 0 := by omega
        unfold seqIndex?
        simp [h0, hj]
      have o3 := o.set (u' := .lst (us.eraseIdx j)) 1 rfl
      have tp := o.tset (u' := .lst (us.eraseIdx j)) 1 rfl fun _ z => by cases z
      refine ⟨F, fs, _, rfl, rfl, o3.at 0 rfl, by omega, rfl, us.eraseIdx j, fs ++ [us[j]], lu.eraseIdx j, lf ++ [lu[j]], ?_, o3.set (u' := .lst (fs ++ [us[j]])) 0 rfl, ?_, ?_, perm_move hjl pm, ?_⟩
      · rw [List.length_eraseIdx_of_lt hjl]
        omega
      · rw [map_erase]
        exact (tu.erase j).mono (tp.trans (o3.tset 0 rfl fun _ z => by cases z))
      · rw [List.map_append]
        exact (tf.append (.cons td .nil)).mono (tp.trans (o3.tset 0 rfl fun _ z => by cases z))
      · simp
        omega
    · have hge : ¬ (fs.length : Int) < m := by simpa using hge
      exact hD' _ _ ⟨rfl, us, fs, lu, lf, o, tf, pm, by omega, l5⟩
  · subst eσ
    replace o : Own s c H H' [(F, .lst fs)] := ⟨o.1, o.2.1, fun p hp => o.2.2.1 p (by simp at hp; simp [hp]), by simp⟩
    have gok : ∀ i ∈ lf, i.ok = true := fun i hi => List.all_eq_true.mp menu_ok i (pm.subset (List.mem_append_right _ hi))
    have gnd : (lf.map Ins.nm ++ (["odd", "odder"] : List Str)).Nodup := by
      have h1 : ((lu ++ lf).map Ins.nm ++ (["odd", "odder"] : List Str)).Nodup := ((pm.map Ins.nm).append_right _).nodup_iff.mpr menu_nd
      rw [List.map_append, List.append_assoc] at h1
      exact (List.nodup_append.mp h1).2.1
    clear pm
    refine ⟨_, rfl, _, rfl, iteT ?_⟩
    dsimp only
    refine ⟨by show 2 ≤ sizeLine; omega, fun X hX => ?_⟩
    have o1 := o.add (u := .lst [.str "odd", .str "odder"]) hX
    replace tf := tf.mono (Tps.new (o := .lst [.str "odd", .str "odder"]) hX)
    refine draw1 (n := 3) o1 (fun _ q => ⟨_, rfl, q⟩) (by omega) fun z H2 o t _ _ => ?_
    replace tf := tf.mono t
    refine ⟨z, rfl, X, [.str "odd", .str "odder"], rfl, .inl (.inl (o.at 0 rfl)), fun p hp => ?_⟩
    obtain ⟨kk, ek⟩ := cut_pre (xs := ["odd", "odder"]) (z := z)
    replace ek : cutV [.str "odd", .str "odder"] none (some z) = ((["odd", "odder"] : List Str).take kk).map V.str := ek
    rw [ek]
    have hys : (["odd", "odder"] : List Str).take kk <+: ["odd", "odder"] := List.take_prefix _ _
    generalize (["odd", "odder"] : List Str).take kk = ys at hys ⊢
    have o3 := o.tail.add (u := .lst (ys.map V.str)) hp
    replace tf := tf.mono (Tps.new (o := .lst (ys.map V.str)) hp)
    generalize upd H2 p (.lst (ys.map V.str)) = H3 at o3 tf ⊢
    have ysl : ys.length ≤ 2 := hys.length_le
    clear o o1 hX hp ek
    refine ⟨p, rfl, ⟨_, .inl (.inl (o3.at 0 rfl))⟩, ?_⟩
    refine for_list (xs := ys.map V.str) (fun i σ H' => ∃ (v5 v6 v7 v8 : Option V) (fs : List V) (ex : List Ins), σ = [some (.ref s), some (.bl true), some (.int m), some (.ref L), some (.ref F), v5, v6, v7, v8, none, none] ∧ Own s c H H' [(p, .lst (ys.map V.str)), (F, .lst fs)] ∧
      TDs H' ((lf ++ ex).map Ins.d) fs ∧ ex.map Ins.nm = ys.take i ∧ ∀ x ∈ ex, x.ok = true) ⟨_, _, _, _, fs, [], rfl, o3, by rw [List.append_nil]; exact tf, by simp, by simp⟩ ?_ ?_ ?_
    · rintro i σ H' _ ⟨_, _, _, _, _, _, _, o, _⟩
      exact .inl (.inl (o.at 0 rfl))
    · rintro i x σ H' hx ⟨v5, v6, v7, v8, fs, ex, rfl, o, tf, en, eo⟩
      rw [List.getElem?_map] at hx
      obtain ⟨nm, hnm, rfl⟩ := Option.map_eq_some_iff.mp hx
      have nok := odd_ok nm (hys.subset (List.mem_of_getElem? hnm))
      have li : i < ys.length := (List.getElem?_eq_some_iff.mp hnm).1
      dsimp only [tSeq, tAsg, gName, tPar, tDrop, tBM, tTup, tCons]
      refine draw1 (n := 3) o (fun _ q => ⟨_, rfl, q⟩) (by omega) fun n H2 o t n0 n1 => ?_
      replace tf := tf.mono t
      obtain ⟨n, rfl⟩ := Int.eq_ofNat_of_zero_le n0
      refine ⟨_, rfl, _, rfl, _, _, _, _, rfl, s, c, n, 3, 1, rfl, o.1, rfl, by omega, rfl, by omega, rfl, by omega, fun l1 w1 H3 s3 m3 q1 p1 t1 => ?_⟩
      replace tf := tf.mono (o.tps m3)
      replace o := o.draw s3 m3
      refine ⟨_, rfl, _, rfl, _, _, _, _, rfl, s, c, n, 3, 1, rfl, o.1, rfl, by omega, rfl, by omega, rfl, by omega, fun l2 w2 H4 s4 m4 q2 p2 t2 => ?_⟩
      replace tf := tf.mono (o.tps m4)
      replace t1 := t1.mono (o.tps m4)
      replace o := o.draw s4 m4
      refine ⟨_, _, rfl, _, rfl, .inl ⟨rfl, _, .inl (.inl (o.at 1 rfl))⟩, _, rfl, _, rfl, _, rfl, ?_⟩
      dsimp only [tIf, tTest, tOp]
      refine draw1 (n := 2) o (fun _ q => ⟨_, rfl, q⟩) (by omega) fun z2 H5 o t _ _ => ?_
      replace tf := tf.mono t
      replace t1 := t1.mono t
      replace t2 := t2.mono t
      refine ⟨rfl, _, rfl, ?_⟩
      have nfs := tf.length
      rw [List.length_map, List.length_append] at nfs
      have nex : ex.length ≤ 2 := by
        have := congrArg List.length en
        rw [List.length_map, List.length_take] at this
        omega
      have fin : ∀ (l3 : List Row) (w3 : V), l3.length ≤ 3 → (∀ r ∈ l3, Row.ok n 1 r = true) → TD' H5 (.t (l3.map Row.d)) w3 → ∀ t, H5 t = none → ∃ ex', Own s c H (upd (upd H5 t (.tup [.str nm, .int n, w1, w3])) F (.lst (fs ++ [.ref t]))) [(p, .lst (ys.map V.str)), (F, .lst (fs ++ [.ref t]))] ∧
          TDs (upd (upd H5 t (.tup [.str nm, .int n, w1, w3])) F (.lst (fs ++ [.ref t]))) ((lf ++ ex').map Ins.d) (fs ++ [.ref t]) ∧ ex'.map Ins.nm = ys.take (i + 1) ∧ ∀ x ∈ ex', x.ok = true := fun l3 w3 q3 p3 t3 t ht => by
        have o6 := o.new (u := .tup [.str nm, .int n, w1, w3]) ht
        have tp := (Tps.new (o := .tup [.str nm, .int n, w1, w3]) ht).trans (o6.tset (u' := .lst (fs ++ [.ref t])) 1 rfl fun _ z => by cases z)
        have et : (upd (upd H5 t (.tup [.str nm, .int n, w1, w3])) F (.lst (fs ++ [.ref t]))) t = some (.tup [.str nm, .int n, w1, w3]) := (upd_ne fun z => by
          have := o.at 1 rfl
          rw [← z, ht] at this
          cases this).trans upd_same
        refine ⟨ex ++ [⟨nm, n, l1, l3⟩], o6.set (u' := .lst (fs ++ [.ref t])) 1 rfl, ?_, ?_, ?_⟩
        · rw [← List.append_assoc, List.map_append]
          exact (tf.mono tp).append (.cons (.t et (.cons (.s _) (.cons (.i _) (.cons (t1.mono tp) (.cons (t3.mono tp) .nil))))) .nil)
        · rw [List.map_append, en, List.take_add_one, hnm]
          rfl
        · intro x hx
          rcases List.mem_append.mp hx with hx | hx
          · exact eo x hx
          · simp only [List.mem_cons, List.not_mem_nil, or_false] at hx
            subst hx
            simp only [Ins.ok, Rows.ok, Bool.and_eq_true, decide_eq_true_eq, List.all_eq_true]
            exact ⟨⟨⟨nok, by omega⟩, by omega, p1⟩, by omega, p3⟩
      refine ite2 (fun _ => ?_) fun _ => ?_
      · refine ⟨_, rfl, by show 4 ≤ sizeLine; omega, fun t ht => ?_⟩
        obtain ⟨ex', a1, a2, a3, a4⟩ := fin l1 w1 q1 p1 t1 t ht
        exact ⟨F, fs, _, rfl, rfl, (o.new ht).at 1 rfl, by omega, _, _, _, _, _, ex', rfl, a1, a2, a3, a4⟩
      · refine ⟨_, rfl, by show 4 ≤ sizeLine; omega, fun t ht => ?_⟩
        obtain ⟨ex', a1, a2, a3, a4⟩ := fin l2 w2 q2 p2 t2 t ht
        exact ⟨F, fs, _, rfl, rfl, (o.new ht).at 1 rfl, by omega, _, _, _, _, _, ex', rfl, a1, a2, a3, a4⟩
    · rintro σ H4 ⟨v5, v6, v7, v8, fs, ex, rfl, o, tf, en, eo⟩
      rw [List.length_map, List.take_length] at en
      replace o : Own s c H H4 [(F, .lst fs)] := o.tail
      have gi : GoodIs (lf ++ ex) := ⟨fun i hi => by
          rcases List.mem_append.mp hi with hi | hi
          · exact gok i hi
          · exact eo i hi, by
          rw [List.map_append, en]
          exact gnd.sublist (hys.sublist.append_left _), by
          have := congrArg List.length en
          rw [List.length_map] at this
          rw [List.length_append]
          omega⟩
      have ne : lf ++ ex ≠ [] := by
        intro z
        have := (List.append_eq_nil_iff.mp z).1
        rw [this] at l0
        simp at l0
      generalize lf ++ ex = is at tf gi ne
      clear gok gnd o3 en eo hys
      dsimp only
      refine st_mkl (by repeat' first | exact mk_s | exact mk_i | exact mk_v rfl (by assumption) | exact mka_nil | exact le_z rfl | apply mka_cons | apply mk_t | apply mk_l | apply mk_cat rfl (by assumption)) fun p9 H5 m5 l5 hp5 => ?_
      replace l5 : LD H5 p9 (kPRIMS.map pD) := l5
      replace tf := tf.mono (.of m5)
      obtain ⟨us9, e9, t9⟩ := l5
      have o5 := o.grow m5 hp5 e9
      clear o m5 hp5 e9
      dsimp only [tSeq, tAsg, gName]
      intro h hh
      have o6 := o5.add (u := .dK []) hh
      replace tf := tf.mono (Tps.new (o := .dK []) hh)
      replace t9 := t9.mono (Tps.new (o := .dK []) hh)
      dsimp only [tPairs, tOp, tC]
      refine draw1 (n := 3) o6 (fun _ q => ⟨_, rfl, q⟩) (by omega) fun r0 H6 o t r00 r01 => ⟨_, _, rfl, rfl, ?_⟩
      replace tf := tf.mono t
      replace t9 := t9.mono t
      have rr2 : 2 ≤ 2 + r0 := by omega
      have rr4 : 2 + r0 ≤ 4 := by omega
      dsimp only
      generalize 2 + r0 = r at rr2 rr4 ⊢
      clear o5 o6 hh t
      refine ⟨_, rfl, by show 2 ≤ sizeLine; omega, fun ca hca => ?_⟩
      have o7 := o.add (u := .lst (kCAUSES.map V.str)) hca
      replace tf := tf.mono (Tps.new (o := .lst (kCAUSES.map V.str)) hca)
      replace t9 := t9.mono (Tps.new (o := .lst (kCAUSES.map V.str)) hca)
      refine ⟨o7.at 1 rfl, [(Sum.inr "registers", .int r), (Sum.inr "instructions", .ref F), (Sum.inr "causes", .ref ca)], rfl, by show 3 ≤ 15; omega, ?_⟩
      have o8 := o7.set (u' := .dK [(Sum.inr "registers", .int r), (Sum.inr "instructions", .ref F), (Sum.inr "causes", .ref ca)]) 1 rfl
      replace tf := tf.mono (o7.tset (u' := .dK [(Sum.inr "registers", .int r), (Sum.inr "instructions", .ref F), (Sum.inr "causes", .ref ca)]) 1 rfl fun _ z => by cases z)
      replace t9 := t9.mono (o7.tset (u' := .dK [(Sum.inr "registers", .int r), (Sum.inr "instructions", .ref F), (Sum.inr "causes", .ref ca)]) 1 rfl fun _ z => by cases z)
      replace o8 : Own s c H (upd (upd H6 ca (.lst (kCAUSES.map V.str))) h (.dK [(Sum.inr "registers", .int r), (Sum.inr "instructions", .ref F), (Sum.inr "causes", .ref ca)])) [(ca, .lst (kCAUSES.map V.str)), (h, .dK [(Sum.inr "registers", .int r), (Sum.inr "instructions", .ref F), (Sum.inr "causes", .ref ca)]), (p9, .lst us9), (F, .lst fs)] := o8
      show sDPut _ _ _ _ _ (upd (upd H6 ca (.lst (kCAUSES.map V.str))) h (.dK [(Sum.inr "registers", .int r), (Sum.inr "instructions", .ref F), (Sum.inr "causes", .ref ca)]))
      generalize upd (upd H6 ca (.lst (kCAUSES.map V.str))) h (.dK [(Sum.inr "registers", .int r), (Sum.inr "instructions", .ref F), (Sum.inr "causes", .ref ca)]) = H7 at o8 tf t9 ⊢
      clear o o7 hca
      refine ⟨by show 2 ≤ sizeLine; omega, fun po hpo => ?_⟩
      have o9 := o8.add (u := .lst (kPORTS.map V.str)) hpo
      replace tf := tf.mono (Tps.new (o := .lst (kPORTS.map V.str)) hpo)
      replace t9 := t9.mono (Tps.new (o := .lst (kPORTS.map V.str)) hpo)
      refine ⟨_, rfl, h, _, rfl, DPut.k (k := Sum.inr "ports") (o9.at 2 rfl) (by show 3 < sizeLine; omega), ?_⟩
      have o10 := o9.set (u' := .dK (houseP r F ca po)) 2 rfl
      have tp10 := o9.tset (u' := .dK (houseP r F ca po)) 2 rfl fun _ z => by cases z
      replace tf := tf.mono tp10
      replace t9 := t9.mono tp10
      show tSeq _ _ _ _ (upd (upd H7 po (.lst (kPORTS.map V.str))) h (.dK (houseP r F ca po)))
      replace o10 : Own s c H (upd (upd H7 po (.lst (kPORTS.map V.str))) h (.dK (houseP r F ca po))) [(po, .lst (kPORTS.map V.str)), (ca, .lst (kCAUSES.map V.str)), (h, .dK (houseP r F ca po)), (p9, .lst us9), (F, .lst fs)] := o10
      generalize upd (upd H7 po (.lst (kPORTS.map V.str))) h (.dK (houseP r F ca po)) = H10 at o10 tf t9 ⊢
      clear o8 o9 tp10 hpo
      dsimp only [tSeq]
      have hg : ∀ {x : Str} {v : V}, valV (houseP r F ca po) (Sum.inr x) = some v → DGet H10 h (.str x) (some v) := fun e => .inl ⟨_, Sum.inr _, .inl (o10.at 2 rfl), rfl, e.symm⟩
      refine ⟨_, rfl, h, .int r, rfl, hg rfl, _, rfl, _, rfl, h, .ref ca, rfl, hg rfl, _, rfl, h, .ref po, rfl, hg rfl, _, rfl, fun y dy hy hdy ndy => ?_⟩
      have mk : Same H10 (upd (upd H10 dy (.own y)) y (.ins (C_Book K) dy [])) := fun b u e => (upd_ne (fun z => by rw [z, hy] at e; cases e)).trans ((upd_ne (fun z => by rw [z, hdy] at e; cases e)).trans e)
      refine ⟨_, _, _, _, _, _, rfl, y, dy, r, p9, ca, po, F, is, rfl, upd_same, rfl, by omega, rfl, rfl, rfl, rfl, ⟨us9, mk _ _ (o10.at 3 rfl), t9.mono (.of mk)⟩, mk _ _ (o10.at 1 rfl), mk _ _ (o10.at 0 rfl), ⟨fs, mk _ _ (o10.at 4 rfl), tf.mono (.of mk)⟩, gi.ok, gi.nd, gi.le, fun H12 b12 hbk => ⟨rfl, ?_⟩⟩
      have m12 : Same H10 H12 := Bt.made hy hdy b12
      refine ⟨_, rfl, h, _, rfl, DPut.k (k := Sum.inr "book") (m12 _ _ (o10.at 2 rfl)) (by show 4 < sizeLine; omega), ?_⟩
      rw [put_book]
      have o12 := (o10.same m12).set (u' := .dK (houseA r F ca po y)) 2 rfl
      have tp12 := (o10.same m12).tset (u' := .dK (houseA r F ca po y)) 2 rfl fun _ z => by cases z
      replace o12 : Own s c H (upd H12 h (.dK (houseA r F ca po y))) [(po, .lst (kPORTS.map V.str)), (ca, .lst (kCAUSES.map V.str)), (h, .dK (houseA r F ca po y)), (p9, .lst us9), (F, .lst fs)] := o12
      replace tf := (tf.mono (.of m12)).mono tp12
      replace hbk := hbk.bt (d := h) (H' := upd H12 h (.dK (houseA r F ca po y))) Bt.put (m12 _ _ (o10.at 2 rfl))
      generalize upd H12 h (.dK (houseA r F ca po y)) = H13 at o12 tf hbk ⊢
      have hS : ∀ x ∈ [s, c, h], ∃ u, H13 x = some u ∧ (∀ xs, u ≠ .tup xs) ∧ ∀ C d l, u ≠ .ins C d l := fun x hx => by
        obtain ⟨_, _, _, _, w1, w2, _⟩ := o12.1
        simp only [List.mem_cons, List.not_mem_nil, or_false] at hx
        rcases hx with rfl | rfl | rfl
        · exact ⟨_, w1, by simp, by simp⟩
        · exact ⟨_, w2, by simp, by simp⟩
        · exact ⟨_, o12.at 2 rfl, by simp, by simp⟩
      have eF := o12.at 4 rfl
      have ehh := o12.at 2 rfl
      obtain ⟨_, nF, _⟩ := o12.2.2.1 (F, .lst fs) (by simp)
      obtain ⟨_, nh, hn⟩ := o12.2.2.1 (h, .dK (houseA r F ca po y)) (by simp)
      have nF3 : F ∉ [s, c, h] := fun z => by
        simp only [List.mem_cons, List.not_mem_nil, or_false, not_or] at z nF
        rcases z with z | z | z
        · exact nF.1 z
        · exact nF.2 z
        · rw [z, ehh] at eF
          cases eF
      refine ⟨_, rfl, _, rfl, _, _, rfl, s, c, h, F, ca, po, y, r, is, rfl, o12.1, rfl, ehh, nh, ⟨fs, Wo.at eF nF3, tf.mono (Wo.tp hS)⟩, hbk.wo hS, gi, ne, rr2, rr4, fun H14 g s14 f14 X => k H14 h g s14 ?_ X⟩
      intro b u e
      have eb := o12.2.1 _ _ e
      have nb := wo_not e
      have nbh : b ≠ h := fun z => by
        rw [z] at e
        have e := Wo.to _ _ e
        rw [hn] at e
        cases e
      refine Wo.at (Wo.to _ _ (f14 _ _ (Wo.at (Wo.to _ _ eb) fun z => ?_))) nb
      simp only [List.mem_cons, List.not_mem_nil, or_false, not_or] at z nb
      rcases z with z | z | z
      · exact nb.1 z
      · exact nb.2 z
      · exact nbh z
end
end W73
set_option Elab.async false
set_option linter.all false
set_option maxRecDepth 100000
set_option maxHeartbeats 4000000
namespace W73
open PySem PySem.Spec PyProof.Rows L2
open C8 (Cal Met Mak pe_c pe_mk pe_mt pe_mt0 pe_gc pss_cut tCut)
section
variable {P : Program} {w : World} {K : PySem.W.Frag} {mg : Str → Option Value} {base : Heap}
theorem ok_any_house (T : Tz P w K mg) : Cal P w K mg base 16 "_law_any_house" (sp_house K) [] := by
  have c_law_pick : Cal P w K mg base 1 "_law_pick" sp_pick [] := ok_pick T
  have c_law_house : Cal P w K mg base 15 "_law_house" (sp_house K) [] := ok_house T
  have c_law_eased : Cal P w K mg base 9 "_law_eased" (sp_eased K) [] := ok_eased T
  refine mk_law_any_house T.toTx len3 fun f cdv A outer s H vs Q E hr h => ?_
  obtain ⟨_, _, _, rfl, s, c, m, rfl, hs, rfl, rfl, m2, m5, k⟩ := h
  refine ⟨_, (pss_cons (ps_set (i := 3) sc_law_any_house.nd rfl (Or.inl rfl) (pe_c c_law_house hr (by first | decide | omega) rfl (pa_cons (pv 0) (pa_cons (pv 1) (pa_cons (pv 2) pa_nil)))))
    (pss_one (ps_ret (pe_ifExp (pt_cmpR op_eq (pe_c c_law_pick hr (by first | decide | omega) rfl (pa_cons (pv 0) (pa_cons pe_int pa_nil))) pe_int (nomark _)) (pe_c c_law_eased hr (by first | decide | omega) rfl (pa_cons (pv 0) (pa_cons (pv 3) pa_nil))) (pv 3))))), ?_⟩
  refine ⟨_, rfl, _, rfl, _, rfl, _, _, _, rfl, s, c, m, rfl, hs, rfl, rfl, m2, m5, fun H1 h g s1 f1 X => ?_⟩
  refine ⟨_, rfl, _, _, rfl, s, c, 2, rfl, s1, rfl, by omega, fun z H2 s2 f2 _ _ => ?_⟩
  have X2 := X.same f2
  refine ⟨rfl, _, rfl, ite2 (fun _ => ?_) fun _ => ?_⟩
  · exact ⟨_, rfl, _, rfl, _, _, rfl, s, c, h, g, rfl, s2, rfl, X2, fun H3 h' g' s3 f3 X3 => k H3 h' g' s3 ((f1.trans f2).trans f3) X3⟩
  · exact ⟨_, rfl, k H2 h g s2 (f1.trans f2) X2⟩
theorem Own.perm {s c : Addr} {H0 H : Hp} {l l' : List (Addr × HO)} (o : Own s c H0 H l) (p : l.Perm l') : Own s c H0 H l' := ⟨o.1, o.2.1, fun q hq => o.2.2.1 q (p.symm.subset hq), ((p.map (·.1)).nodup_iff).mp o.2.2.2⟩
def rowV (ps : List (Addr × List Int)) : List V := ps.map fun p => .ref p.1
def rowO (ps : List (Addr × List Int)) : List (Addr × HO) := ps.map fun p => (p.1, .lst (p.2.map V.int))
theorem rowO_fr {H : Hp} : ∀ {ps : List (Addr × List Int)}, (∀ p ∈ rowO ps, H p.1 = some p.2) → Paired (fun a (row : List Int) => H a = some (.lst (row.map V.int))) (ps.map (·.1)) (ps.map (·.2))
  | [], _ => .nil
  | p :: ps, h => .cons (h (p.1, .lst (p.2.map V.int)) (List.mem_cons_self ..)) (rowO_fr fun q hq => h q (List.mem_cons_of_mem _ hq))
def sp_box (K : PySem.W.Frag) : Sp := sp2 fun a b H Q => ∃ s c h g, a = .ref s ∧ Src s c H ∧ b = .ref h ∧ Hs K (Wo [s, c] H) h g ∧ ∀ L F sp q fr f ks H', Src s c H' → Same (Wo [s, c] H) (Wo [s, c] H') → H' L = some (.lst [.ref F, .ref sp, .ref q]) →
  FrAt (Nw H H') F fr → fr.length = 5 → (∀ row ∈ fr, (row.length : Int) = g.pl ∧ ∀ n ∈ row, inW g n) → Nw H H' sp = some (.dK (spK f)) → (∀ x ∈ kSPECS, inW g (f x)) → f "mode" = 0 → QsAt (Nw H H') q [] ks → (∀ n ∈ ks, inW g n) → ks.length ≤ 2 → Q (.ref L) H'
theorem ok_box (T : Tz P w K mg) : Cal P w K mg base 2 "_law_box" (sp_box K) [] := by
  have c_law_pick : Cal P w K mg base 1 "_law_pick" sp_pick [] := ok_pick T
  refine mk_law_box T.toTx len2 fun f cdv A outer s H vs Q E hr h => ?_
  obtain ⟨_, _, rfl, s, c, h, g, rfl, hs, rfl, X, k⟩ := h
  have hu := hu_of hr
  have hz := sizeL
  obtain ⟨⟨il, ca, po, bk, tb, en0, co0, m0, tf, hh', _⟩, gok, _, _, _, p3, p5, q2⟩ := X
  have q5 := gok.pg1
  have w6 : 6 ≤ g.wd := gok.six
  have w25 : g.wd ≤ 25 := by
    have : g.pl * g.pg ≤ 5 * 5 := Int.mul_le_mul p5 (Int.le_trans q5 p5) (by omega) (by omega)
    unfold Gd.wd
    omega
  have nh := wo_not hh'
  have hh := Wo.to _ _ hh'
  have hg : ∀ {x : Str} {v : V} {H' : Hp} {l : List (Addr × HO)}, Own s c H H' l → valV (houseB g.r il ca po bk g.pl g.pg tb en0 co0 m0) (Sum.inr x) = some v → DGet H' h (.str x) (some v) := fun o e => .inl ⟨_, Sum.inr _, .inl (o.old nh hh), rfl, e.symm⟩
  have o0 := Own.start hs
  refine ⟨_, (pss_cons (ps_set (i := 2) sc_law_box.nd rfl (Or.inr rfl) (pe_dget hu (pv 1) pe_str (fun _ _ => rfl)))
    (pss_cons (ps_set (i := 3) sc_law_box.nd rfl (Or.inl rfl) (pe_lst pa_nil))
    (pss_cons (ps_for PassesOwn.never rfl (pi_range1 (by rfl) T.b_range (pa_cons pe_int pa_nil)) (pg_name (i := 4) sc_law_box.nd rfl (Or.inl rfl)) (pss_one (ps_expr (pe_bm PySem.F.plainAttrs_list PySem.F.slot_list_append PySem.F.type_list_append mt_append (pv 3) (pa_cons (pe_lc  (own := [("_law_n", 8)]) (g := gName 8) (tt := tYes) rfl sc_law_box.nd (pi_range1 (by rfl) T.b_range (pa_cons (pe_dget hu (pv 1) pe_str (fun _ _ => rfl)) pa_nil)) (blkOk_by (N := ["_law_source_here", "_law_house_here", "_law_words", "_law_frames", "_law_k", "_law_specials", "_law_name", "_law_queues", "_law_n"]) (sc := defScope s_law_box) (by decide +kernel)) (fun _ _ _ _ _ => (pg_name (i := 8) sc_law_box.nd rfl (Or.inl rfl))) (fun _ _ _ _ _ => pts_nil) (fun _ _ _ _ _ => (pe_c c_law_pick hr (by first | decide | omega) rfl (pa_cons (pv 0) (pa_cons (pv 2) pa_nil))))) pa_nil)))))
    (pss_cons (ps_set (i := 5) sc_law_box.nd rfl (Or.inl rfl) pe_dnewK)
    (pss_cons (ps_for PassesOwn.never rfl (pi_list (pe_lst (pa_cons pe_str (pa_cons pe_str (pa_cons pe_str (pa_cons pe_str (pa_cons pe_str (pa_cons pe_str (pa_cons pe_str (pa_cons pe_str (pa_cons pe_str pa_nil))))))))))) (pg_name (i := 6) sc_law_box.nd rfl (Or.inl rfl)) (pss_one (ps_dput hu (pv 5) (pv 6) (pe_c c_law_pick hr (by first | decide | omega) rfl (pa_cons (pv 0) (pa_cons (pv 2) pa_nil))) rfl)))
    (pss_cons (ps_dput hu (pv 5) pe_str pe_int rfl)
    (pss_cons (ps_set (i := 7) sc_law_box.nd rfl (Or.inl rfl) (pe_disp (pps_cons pe_str (pe_lst pa_nil) (pps_cons pe_str (pe_lc  (own := [("_law_k", 4)]) (g := gName 4) (tt := tYes) rfl sc_law_box.nd (pi_range1 (by rfl) T.b_range (pa_cons (pe_c c_law_pick hr (by first | decide | omega) rfl (pa_cons (pv 0) (pa_cons pe_int pa_nil))) pa_nil)) (blkOk_by (N := ["_law_source_here", "_law_house_here", "_law_words", "_law_frames", "_law_k", "_law_specials", "_law_name", "_law_queues", "_law_n"]) (sc := defScope s_law_box) (by decide +kernel)) (fun _ _ _ _ _ => (pg_name (i := 4) sc_law_box.nd rfl (Or.inl rfl))) (fun _ _ _ _ _ => pts_nil) (fun _ _ _ _ _ => (pe_c c_law_pick hr (by first | decide | omega) rfl (pa_cons (pv 0) (pa_cons (pv 2) pa_nil))))) pps_nil)) (by rfl) (by rfl) (fun z => by cases z) (by decide)))
    (pss_one (ps_ret (pe_lst (pa_cons (pv 3) (pa_cons (pv 5) (pa_cons (pv 7) pa_nil))))))))))))), ?_⟩
  refine ⟨_, rfl, h, .int g.wd, rfl, hg o0 rfl, ?_⟩
  refine ⟨by show 0 ≤ sizeLine; omega, fun F hF => ?_⟩
  have o1 := o0.add (u := .lst []) hF
  dsimp only
  show tSeq (tFor _ _ _) _ _ [some (.ref s), some (.ref h), some (.int g.wd), some (.ref F), none, none, none, none, none] (upd H F (.lst []))
  refine ⟨5, rfl, by omega, by omega, ?_⟩
  refine for_range (lo := 0) (n := 5) (fun i σ H' => ∃ (v4 : Option V) (ps : List (Addr × List Int)), σ = [some (.ref s), some (.ref h), some (.int g.wd), some (.ref F), v4, none, none, none, none] ∧ Own s c H H' ((F, .lst (rowV ps)) :: rowO ps) ∧ ps.length = i ∧ ∀ p ∈ ps, (p.2.length : Int) = g.pl ∧ ∀ n ∈ p.2, inW g n) ⟨_, [], rfl, o1, rfl, by simp⟩ ?_ ?_
  · rintro i σ H1 hi ⟨v4, ps, rfl, o, lp, hp⟩
    refine ⟨_, rfl, .inl ⟨rfl, _, .inl (.inl (o.at 0 rfl))⟩, ?_⟩
    dsimp only [tCons]
    refine draw_lc (fun n => (n : Int) = g.pl) (inW g) (fun n hn => by omega) (fun R q => ⟨_, rfl, h, .int g.pl, rfl, hg o rfl, _, rfl, by omega, by omega, q _ _ (by omega) o (Tps.refl _)⟩) ?_ (fun j H1 l1 R o1 kk => ?_) fun ns D H2 ln hp2 o t => ?_
    · exact fun _ => rfl
    · exact draw1 (n := g.wd) o1 (fun _ q => ⟨_, rfl, _, rfl, q⟩) (by omega) fun v H2 o2 t2 v0 v1 => kk v H2 o2 t2 ⟨v0, by omega⟩
    refine ⟨F, _, _, rfl, rfl, o.at 1 rfl, by unfold rowV; rw [List.length_map]; omega, _, ps ++ [(D, ns)], rfl, ?_, by simp [lp], fun p hp3 => ?_⟩
    · have := o.set (u' := .lst (rowV ps ++ [.ref D])) 1 rfl
      unfold rowO rowV at this ⊢
      rw [List.map_append, List.map_append]
      exact this.perm ((List.Perm.swap _ _ _).trans ((List.perm_append_singleton _ _).symm.cons _))
    · rcases List.mem_append.mp hp3 with hp3 | hp3
      · exact hp p hp3
      · simp only [List.mem_cons, List.not_mem_nil, or_false] at hp3
        subst hp3
        exact ⟨ln, hp2⟩
  · rintro σ H1 ⟨v4, ps, rfl, o, lp, hp⟩
    dsimp only [tSeq, tAsg, gName]
    intro sp hsp
    have o2 := o.add (u := .dK []) hsp
    show tFor _ _ _ _ [some (.ref s), some (.ref h), some (.int g.wd), some (.ref F), v4, some (.ref sp), none, none, none] _
    refine ⟨by show 9 ≤ sizeLine; omega, fun X hX => ?_⟩
    generalize hH : upd _ X _ = H2
    have o3 : Own s c H H2 ((X, .lst (kSPECS.map V.str)) :: (sp, .dK []) :: (F, .lst (rowV ps)) :: rowO ps) := by
      rw [← hH]
      exact o2.add hX
    clear hH
    refine ⟨X, rfl, ⟨_, .inl (.inl (o3.at 0 rfl))⟩, ?_⟩
    refine for_list (xs := kSPECS.map V.str) (fun i σ H' => ∃ (v6 : Option V) (f : Str → Int), σ = [some (.ref s), some (.ref h), some (.int g.wd), some (.ref F), v4, some (.ref sp), v6, none, none] ∧
      Own s c H H' ((X, .lst (kSPECS.map V.str)) :: (sp, .dK ((kSPECS.take i).map fun x => (Sum.inr x, .int (f x)))) :: (F, .lst (rowV ps)) :: rowO ps) ∧ ∀ x ∈ kSPECS.take i, inW g (f x)) ⟨_, fun _ => 0, rfl, o3, by simp⟩ ?_ ?_ ?_
    · rintro i σ H' _ ⟨_, _, _, o, _⟩
      exact .inl (.inl (o.at 0 rfl))
    · rintro i x σ H2 hx ⟨v6, f, rfl, o, hf⟩
      rw [List.getElem?_map] at hx
      obtain ⟨nm, hnm, rfl⟩ := Option.map_eq_some_iff.mp hx
      have li : i < kSPECS.length := (List.getElem?_eq_some_iff.mp hnm).1
      have e9 : kSPECS.length = 9 := rfl
      have hn : nm ∉ kSPECS.take i := by
        have := take_notin (xs := kSPECS) (by decide +kernel) (i := i) li
        rw [(List.getElem?_eq_some_iff.mp hnm).2] at this
        exact this
      dsimp only [gName, sDPut]
      refine draw1 (n := g.wd) o (fun _ q => ⟨_, rfl, _, rfl, q⟩) (by omega) fun v H3 o t v0 v1 => ?_
      refine ⟨_, rfl, _, rfl, sp, _, rfl, DPut.k (k := Sum.inr nm) (o.at 1 rfl) (by rw [List.length_map, List.length_take]; omega), _, fun y => if y = nm then v else f y, rfl, ?_, ?_⟩
      · have := o.set (u' := .dK (putK ((kSPECS.take i).map fun x => ((Sum.inr x : Key), V.int (f x))) (Sum.inr nm) (.int v))) 1 rfl
        have e : putK ((kSPECS.take i).map fun x => ((Sum.inr x : Key), V.int (f x))) (Sum.inr nm) (.int v) = (kSPECS.take (i + 1)).map fun x => (Sum.inr x, .int (if x = nm then v else f x)) := by
          rw [putK_new (valV_none fun p hp => by
            obtain ⟨x, hx, rfl⟩ := List.mem_map.mp hp
            intro z
            cases z
            exact hn hx), List.take_add_one, hnm, List.map_append]
          congr 1
          · refine List.map_congr_left fun x hx => ?_
            rw [if_neg fun z : x = nm => hn (z ▸ hx)]
          · simp
        rw [e] at this ⊢
        exact this
      · intro x hx
        show inW g (if x = nm then v else f x)
        split
        · exact ⟨v0, by omega⟩
        · rename_i hxn
          refine hf x ?_
          rw [List.take_add_one, hnm] at hx
          rcases List.mem_append.mp hx with hx | hx
          · exact hx
          · simp at hx
            exact absurd hx hxn
    · rintro σ H2 ⟨v6, f, rfl, o, hf⟩
      rw [List.length_map, List.take_length] at o hf
      replace o := o.tail
      refine ⟨_, rfl, sp, _, rfl, DPut.k (k := Sum.inr "mode") (o.at 0 rfl) (by rw [List.length_map]; show 9 < sizeLine; omega), ?_⟩
      have o4 := o.set (u' := .dK (putK (spK f) (Sum.inr "mode") (.int 0))) 0 rfl
      show (fun q => _) (upd H2 sp (.dK (putK (spK f) (Sum.inr "mode") (.int 0))))
      rw [spK_put (by decide +kernel)] at o4 ⊢
      have hf2 : ∀ x ∈ kSPECS, inW g (if x = "mode" then 0 else f x) := fun x hx => by
        split
        · exact ⟨by omega, by omega⟩
        · exact hf x hx
      have fm : (if ("mode" : Str) = "mode" then (0 : Int) else f "mode") = 0 := if_pos rfl
      generalize hF2 : (fun y : Str => if y = "mode" then (0 : Int) else f y) = f2 at o4 ⊢
      replace o4 : Own s c H (upd H2 sp (.dK (spK f2))) ((sp, .dK (spK f2)) :: (F, .lst (rowV ps)) :: rowO ps) := o4
      have hf3 : ∀ x ∈ kSPECS, inW g (f2 x) := fun x hx => by
        rw [← hF2]
        exact hf2 x hx
      have fm3 : f2 "mode" = 0 := by
        rw [← hF2]
        exact fm
      clear hF2 hf2 fm hf o3 o o2
      generalize upd H2 sp (.dK (spK f2)) = H3 at o4 ⊢
      dsimp only [tSeq, tAsg, gName]
      intro q hq
      have o5 := o4.add (u := .dK []) hq
      refine ⟨by show 0 ≤ sizeLine; omega, fun a ha => ?_⟩
      have o6 := o5.add (u := .lst []) ha
      dsimp only [tPairs, tC]
      refine draw_lc (s := s) (c := c) (H0 := H) (l := (a, .lst []) :: (q, .dK []) :: (sp, .dK (spK f2)) :: (F, .lst (rowV ps)) :: rowO ps) (fun n => n ≤ 2) (inW g) (fun n hn => by omega) (fun R qq => ?_) ?_ (fun j H1 l1 R o1 kk => ?_) fun ks b H4 lk hk o t => ?_
      · exact draw1 (n := 3) o6 (fun _ q => ⟨_, rfl, q⟩) (by omega) fun z H4 o t z0 z1 => ⟨z, rfl, by omega, by omega, qq z.toNat H4 (by omega) o t⟩
      · exact fun _ => rfl
      · exact draw1 (n := g.wd) o1 (fun _ q => ⟨_, rfl, _, rfl, q⟩) (by omega) fun v H2 o2 t2 v0 v1 => kk v H2 o2 t2 ⟨v0, by omega⟩
      refine ⟨o.at 2 rfl, [(Sum.inr "tty", .ref a), (Sum.inr "keys", .ref b)], rfl, by show 2 ≤ 15; omega, ?_⟩
      have o7 := o.set (u' := .dK (mergeK [] [(Sum.inr "tty", .ref a), (Sum.inr "keys", .ref b)])) 2 rfl
      replace o7 : Own s c H (upd H4 q (.dK (mergeK [] [(Sum.inr "tty", .ref a), (Sum.inr "keys", .ref b)]))) ((b, .lst (ks.map V.int)) :: (a, .lst []) :: (q, .dK [(Sum.inr "tty", .ref a), (Sum.inr "keys", .ref b)]) :: (sp, .dK (spK f2)) :: (F, .lst (rowV ps)) :: rowO ps) := o7
      generalize upd H4 q (.dK (mergeK [] [(Sum.inr "tty", .ref a), (Sum.inr "keys", .ref b)])) = H5 at o7 ⊢
      refine ⟨_, rfl, _, rfl, _, rfl, by show 3 ≤ sizeLine; omega, fun L hL => ?_⟩
      have o8 := o7.add (u := .lst [.ref F, .ref sp, .ref q]) hL
      have nw : ∀ p ∈ ((L, .lst [.ref F, .ref sp, .ref q]) :: (b, .lst (ks.map V.int)) :: (a, .lst []) :: (q, .dK [(Sum.inr "tty", .ref a), (Sum.inr "keys", .ref b)]) :: (sp, .dK (spK f2)) :: (F, .lst (rowV ps)) :: rowO ps : List (Addr × HO)), Nw H (upd H5 L (.lst [.ref F, .ref sp, .ref q])) p.1 = some p.2 := fun p hp => Nw.at (o8.2.2.1 p hp).2.2 (o8.2.2.1 p hp).1
      have nab : a ≠ b := by
        have := o7.2.2.2
        simp only [List.map_cons, List.nodup_cons, List.mem_cons, not_or] at this
        exact fun z => this.1.1 z.symm
      refine k L F sp q (ps.map (·.2)) f2 ks _ o8.1 o8.2.1 (o8.at 0 rfl) ⟨ps.map (·.1), ?_, rowO_fr fun p hp => nw p ?_⟩ (by rw [List.length_map]; exact lp) (fun row hr => ?_) (nw (sp, .dK (spK f2)) (by simp)) hf3 fm3 ⟨a, b, nw (q, .dK [(Sum.inr "tty", .ref a), (Sum.inr "keys", .ref b)]) (by simp), nw (a, .lst []) (by simp), nw (b, .lst (ks.map V.int)) (by simp), nab⟩ hk lk
      · have := nw (F, .lst (rowV ps)) (by simp)
        rw [List.map_map]
        exact this
      · simp only [List.mem_cons]
        exact .inr (.inr (.inr (.inr (.inr (.inr hp)))))
      · obtain ⟨p, hp4, rfl⟩ := List.mem_map.mp hr
        exact hp p hp4
end
end W73
set_option Elab.async false
set_option linter.all false
set_option maxRecDepth 100000
set_option maxHeartbeats 4000000
namespace W73
open PySem PySem.Spec PyProof.Rows L2
open C8 (Cal Met Mak pe_c pe_mk pe_mt pe_mt0 pe_gc pss_cut tCut)
section
variable {P : Program} {w : World} {K : PySem.W.Frag} {mg : Str → Option Value} {base : Heap}
def PartsAt (H : Hp) (l : Addr) (bx : Bx) : Prop := ∃ F s a o, H l = some (.lst [.ref F, .ref s, .ref a, .ref o]) ∧ FrAt H F bx.fr ∧ H s = some (.dK (spK bx.sw)) ∧ QsAt H a [] bx.keys ∧ QsAt H o bx.tty []
theorem PartsAt.same {H H' : Hp} {l : Addr} {bx : Bx} (m : Same H H') : PartsAt H l bx → PartsAt H' l bx := fun ⟨F, s, a, o, h, h1, h2, h3, h4⟩ => ⟨F, s, a, o, m _ _ h, h1.same m, m _ _ h2, h3.same m, h4.same m⟩
def sp_parts (K : PySem.W.Frag) : Sp := sp1 fun x H Q => ∃ b q m bx, x = .ref b ∧ BoxAt K H b q m bx ∧ bx.fr.length ≤ 1000 ∧ ∀ l H', Same H H' → PartsAt (Nw H H') l bx → Q (.ref l) H'
theorem ok_parts (T : Tz P w K mg) : Cal P w K mg base 2 "_law_parts" (sp_parts K) [] := by
  have c_Box_frames : Met P w K mg base 1 (C_Box K) "frames" (sp_Box_frames K) [] := ok_Box_frames T
  have c_Box_specials : Met P w K mg base 1 (C_Box K) "specials" (sp_Box_specials K) [] := ok_Box_specials T
  have c_Box_answers : Met P w K mg base 1 (C_Box K) "answers" (sp_Box_answers K) [] := ok_Box_answers T
  have c_Box_outs : Met P w K mg base 1 (C_Box K) "outs" (sp_Box_outs K) [] := ok_Box_outs T
  refine mk_law_parts T.toTx len1 fun f cdv A outer s H vs Q E hr h => ?_
  obtain ⟨_, rfl, b, q, m, bx, rfl, hb, hl, k⟩ := h
  have hz := sizeL
  refine ⟨_, (pss_one (ps_ret (pe_lst (pa_cons (pe_mt0 c_Box_frames hr (by first | decide | omega) (pv 0)) (pa_cons (pe_mt0 c_Box_specials hr (by first | decide | omega) (pv 0)) (pa_cons (pe_mt0 c_Box_answers hr (by first | decide | omega) (pv 0)) (pa_cons (pe_mt0 c_Box_outs hr (by first | decide | omega) (pv 0)) pa_nil))))))), ?_⟩
  have ⟨dx, F0, s0, o0, ib, _⟩ := hb
  refine ⟨_, rfl, b, dx, _, rfl, ib, rfl, _, rfl, b, q, m, bx, rfl, hb, hl, fun F H1 m1 e1 => ?_⟩
  refine ⟨_, rfl, b, dx, _, rfl, m1 _ _ ib, rfl, _, rfl, b, q, m, bx, rfl, hb.same m1, fun s H2 m2 e2 => ?_⟩
  have m12 := m1.trans m2
  refine ⟨_, rfl, b, dx, _, rfl, m12 _ _ ib, rfl, _, rfl, b, q, m, bx, rfl, hb.same m12, fun a H3 m3 e3 => ?_⟩
  have m13 := m12.trans m3
  refine ⟨_, rfl, b, dx, _, rfl, m13 _ _ ib, rfl, _, rfl, b, q, m, bx, rfl, hb.same m13, fun o H4 m4 e4 => ?_⟩
  refine ⟨by show 4 ≤ sizeLine; omega, fun l hl2 => ?_⟩
  have m5 := Same.new (o := .lst [.ref F, .ref s, .ref a, .ref o]) hl2
  have e5 : (upd H4 l (.lst [.ref F, .ref s, .ref a, .ref o])) l = some (.lst [.ref F, .ref s, .ref a, .ref o]) := upd_same
  have z5 := Same.none (m13.trans m4) hl2
  generalize upd H4 l (.lst [.ref F, .ref s, .ref a, .ref o]) = H5 at m5 e5 ⊢
  have n4 := m4.trans m5
  have n3 := m3.trans n4
  have n2 := m2.trans n3
  refine k l H5 (m1.trans n2) ⟨F, s, a, o, Nw.at z5 e5, e1.same (Nw.mono n2), ?_, ?_, ?_⟩
  · exact Nw.bas m1 _ _ (Nw.mono n3 _ _ e2)
  · exact (e3.same (Nw.mono n4)).same (Nw.bas m12)
  · exact (e4.same (Nw.mono m5)).same (Nw.bas m13)
end
end W73
set_option Elab.async false
set_option linter.all false
set_option maxRecDepth 100000
set_option maxHeartbeats 4000000
namespace W73
open PySem PySem.Spec PyProof.Rows L2
open C8 (Cal Met Mak pe_c pe_mk pe_mt pe_mt0 pe_gc pss_cut tCut)
section
variable {P : Program} {w : World} {K : PySem.W.Frag} {mg : Str → Option Value} {base : Heap}
/-! ### how a bare step ends -/
def endOk (d : D) : Prop := (∃ (a : Int) (r : Str), d = .t [.s "refused", .i a, .s r] ∧ r ∈ (["r", "w", "x"] : List Str)) ∨ d = .t [.s "code"] ∨ ∃ x ∈ kCAUSES, d = .t [.s "trap", .s x]
theorem step0_endOk {c : Cv} {se : List Int} {ms : Ms} {n : Nat} {r : R0} {d : D} (h : r.ok n = true) (e : (step0 c se ms r).2 = some d) : endOk d := by
  cases r with
  | trap x => cases e; exact .inr (.inr ⟨x, by simpa [R0.ok] using h, rfl⟩)
  | load a b =>
    simp only [step0] at e
    split at e
    · cases e; exact .inl ⟨_, _, rfl, by simp⟩
    · cases e
  | store a b =>
    simp only [step0] at e
    split at e
    · cases e; exact .inl ⟨_, _, rfl, by simp⟩
    · cases e
  | _ => cases e
theorem run0_endOk {c : Cv} {se : List Int} {n : Nat} : ∀ {l : List R0} {ms : Ms} {d : D}, (∀ r ∈ l, r.ok n = true) → (run0 c se ms l).2 = some d → endOk d
  | [], _, _, _, e => by cases e
  | r :: l, ms, d, h, e => by
    unfold run0 at e
    split at e
    · exact run0_endOk (fun x hx => h x (List.mem_cons_of_mem _ hx)) e
    · rename_i h'
      have := step0_endOk (d := d) (c := c) (se := se) (ms := ms) (h r (List.mem_cons_self ..))
      rw [h'] at this
      exact this e
theorem step1_endOk {c : Cv} {se : List Int} {ms : Ms} {n m : Nat} {r : Row} {d : D} (h : r.ok n m = true) (e : (step1 c se ms r).2 = some d) : endOk d := by
  cases r with
  | r z => exact step0_endOk (n := n) h e
  | iff a x y =>
    simp only [Row.ok, Bool.and_eq_true, decide_eq_true_eq, List.all_eq_true] at h
    have e : (run0 c se ms (if rval se ms a = 0 then y else x)).2 = some d := e
    refine run0_endOk (n := n) (fun r hr => ?_) e
    split at hr
    · exact h.2 r hr
    · exact h.1.1.2 r hr
theorem run1_endOk {c : Cv} {se : List Int} {n m : Nat} : ∀ {l : List Row} {ms : Ms} {d : D}, (∀ r ∈ l, r.ok n m = true) → (run1 c se ms l).2 = some d → endOk d
  | [], _, _, _, e => by cases e
  | r :: l, ms, d, h, e => by
    unfold run1 at e
    split at e
    · exact run1_endOk (fun x hx => h x (List.mem_cons_of_mem _ hx)) e
    · rename_i h'
      have := step1_endOk (d := d) (c := c) (se := se) (ms := ms) (h r (List.mem_cons_self ..))
      rw [h'] at this
      exact this e
theorem bare_endOk {c : Cv} {rs : List Int} {n : Int} {d : D} (gi : GoodIs c.g.is) (e : bareM c rs n = .inl d) : endOk d := by
  have e : tr c rs n = .inl d := by
    unfold bareM at e
    cases h : tr c rs n with
    | inl d' => rw [h] at e; cases e; rfl
    | inr z => rw [h] at e; cases e
  unfold tr at e
  split at e
  · cases e; exact .inl ⟨_, _, rfl, by simp⟩
  · split at e
    · cases e; exact .inr (.inl rfl)
    · split at e
      · cases e; exact .inr (.inl rfl)
      · rename_i hi
        have hin := gi.ok _ (List.mem_of_find?_eq_some hi)
        simp only [Ins.ok, Rows.ok, Bool.and_eq_true, decide_eq_true_eq, List.all_eq_true] at hin
        split at e
        · rename_i h
          cases e
          exact run1_endOk hin.1.2.2 (congrArg Prod.snd h)
        · cases e
theorem shaped_of {d : PyData} (h1 : PyData.canLay0 d = true) (h2 : PyData.depth d ≤ 64) : SeqAt.shaped d = true := by
  unfold SeqAt.shaped
  rw [Bool.and_eq_true, decide_eq_true_eq]
  exact ⟨h1, h2⟩
theorem endOk.shaped {d : D} (h : endOk d) : SeqAt.shaped d.py = true := by
  rcases h with ⟨a, r, rfl, hr⟩ | rfl | ⟨x, hx, rfl⟩
  · simp only [List.mem_cons, List.not_mem_nil, or_false] at hr
    rcases hr with rfl | rfl | rfl <;> simp only [D.py, D.pys] <;> refine shaped_of ?_ (by simp [PyData.depth, PyData.depthAll]) <;> simp only [PyData.canLay0, PyData.canLayAll0] <;> decide +kernel
  · simp only [D.py, D.pys]
    refine shaped_of ?_ (by simp [PyData.depth, PyData.depthAll])
    simp only [PyData.canLay0, PyData.canLayAll0]
    decide +kernel
  · simp only [kCAUSES, List.mem_cons, List.not_mem_nil, or_false] at hx
    rcases hx with rfl | rfl <;> simp only [D.py, D.pys] <;> refine shaped_of ?_ (by simp [PyData.depth, PyData.depthAll]) <;> simp only [PyData.canLay0, PyData.canLayAll0] <;> decide +kernel
abbrev Res := D ⊕ (List Int × Int × Bx)
def pyR : Res → PyData
  | .inl d => d.py
  | .inr (rs, n, _) => .tuple [.str "done", .list (rs.map PyData.int), .int n]
def EndAt (H : Hp) (v : V) : Res → Prop
  | .inl d => TD' H d v
  | .inr (rs, n, _) => ∃ t l, v = .ref t ∧ H t = some (.tup [.str "done", .ref l, .int n]) ∧ H l = some (.lst (rs.map V.int))
def endBx (bx : Bx) : Res → Bx
  | .inl _ => bx
  | .inr (_, _, b) => b
theorem ints_dp {K : PySem.W.Frag} {H : Hp} : ∀ rs : List Int, DpAll K H (rs.map V.int) (rs.map PyData.int)
  | [] => .nil
  | r :: rs => .cons (.int r) (ints_dp rs)
theorem EndAt.dp {K : PySem.W.Frag} {H : Hp} {v : V} {r : Res} (h : EndAt H v r) : Dp K H v (pyR r) := by
  cases r with
  | inl d => exact TD'.dp h
  | inr z =>
    obtain ⟨rs, n, b⟩ := z
    obtain ⟨t, l, rfl, e1, e2⟩ := h
    exact .tup (.inl (.inl e1)) (.cons (.str _) (.cons (.lst (.inl (.inl e2)) (ints_dp rs)) (.cons (.int n) .nil)))
theorem ints_can : ∀ rs : List Int, PyData.canLayAll0 (rs.map PyData.int) = true
  | [] => rfl
  | _ :: rs => by
    rw [List.map_cons]
    unfold PyData.canLayAll0
    rw [ints_can rs]
    rfl
theorem ints_depth : ∀ rs : List Int, PyData.depthAll (rs.map PyData.int) ≤ 1
  | [] => by decide
  | r :: rs => by
    have := ints_depth rs
    rw [List.map_cons]
    unfold PyData.depthAll
    have e : PyData.depth (.int r) ≤ 1 := by
      unfold PyData.depth
      decide
    omega
theorem pyR_shaped {r : Res} (h : ∀ d, r = .inl d → endOk d) : SeqAt.shaped (pyR r) = true := by
  cases r with
  | inl d => exact (h d rfl).shaped
  | inr z =>
    obtain ⟨rs, n, b⟩ := z
    unfold SeqAt.shaped
    rw [Bool.and_eq_true, decide_eq_true_eq]
    constructor
    · show PyData.canLay0 (.tuple [.str "done", .list (rs.map PyData.int), .int n]) = true
      simp only [PyData.canLay0, PyData.canLayAll0, ints_can]
      decide +kernel
    · show PyData.depth (.tuple [.str "done", .list (rs.map PyData.int), .int n]) ≤ 64
      have := ints_depth rs
      simp only [PyData.depth, PyData.depthAll]
      omega
end
end W73
set_option Elab.async false
set_option linter.all false
set_option maxRecDepth 100000
set_option maxHeartbeats 4000000
namespace W73
open PySem PySem.Spec PyProof.Rows L2
open C8 (Cal Met Mak pe_c pe_mk pe_mt pe_mt0 pe_gc pss_cut tCut)
section
variable {P : Program} {w : World} {K : PySem.W.Frag} {mg : Str → Option Value} {base : Heap}
theorem bare_use {E : XK} {H : Hp} {b q m mp rg : Addr} {bx : Bx} {c : Cv} {rs : List Int} {n : Int} {Q : VK} (B : BoxAt K H b q m bx) (hm : MeanAt K (Wo [b, q] H) m c.g) (hmp : MapAt (Wo [b, q] H) mp c.mp) (cok : c.ok) (e1 : c.fr = bx.fr) (e2 : c.sw = bx.sw) (e3 : c.tty = bx.tty) (e4 : c.keys = bx.keys)
    (hrg : H rg = some (.lst (rs.map V.int))) (l1 : rs.length ≤ 1000) (l2 : (rs.length : Int) = c.g.r) (S : List Addr) (hS : ∀ x ∈ S, x ≠ b ∧ x ≠ q ∧ ∃ u, H x = some u ∧ ∀ xs, u ≠ .lst xs) (BS : BoxAt K (Wo S H) b q m bx)
    (k : ∀ v H', EndAt H' v (bareM c rs n) → Same (Wo [b, q] H) (Wo [b, q] H') → (∀ d, bareM c rs n = .inl d → Same H H') → BoxAt K (Wo S H') b q m (endBx bx (bareM c rs n)) → Q v H') : sp_bare K [.ref b, .ref mp, .ref rg, .int n] H Q E :=
  ⟨_, _, _, _, rfl, b, q, m, bx, mp, c, rg, rs, n, rfl, B, rfl, rfl, rfl, hm, hmp, cok, e1, e2, e3, e4, hrg, l1, l2,
    fun d v H' e s t => k v H' (by rw [e]; exact t) (Wo.mono s) (fun _ _ => s) (by rw [e]; exact BS.same (Wo.mono s)),
    fun rs' n' bx' t l H' e s bS et el => k _ H' (by rw [e]; exact ⟨t, l, rfl, et, el⟩) s (fun d e' => by rw [e] at e'; cases e') (by rw [e]; exact bS S hS)⟩
/-! ### two lists of the same parts -/
theorem ev_ints {H : Hp} {a b : Addr} {xs : List Int} {n : Nat} (h1 : H a = some (.lst (xs.map V.int))) (h2 : H b = some (.lst (xs.map V.int))) : Ev H (n + 1) (.ref a) (.ref b) := .lst h1 h2 rfl fun i x y hx hy => by
  rw [hx] at hy
  cases hy
  rw [List.getElem?_map] at hx
  obtain ⟨z, _, rfl⟩ := Option.map_eq_some_iff.mp hx
  exact .int _ z
theorem ev_fr {H : Hp} {a b : Addr} {fr : List (List Int)} {n : Nat} (h1 : FrAt H a fr) (h2 : FrAt H b fr) : Ev H (n + 2) (.ref a) (.ref b) := by
  obtain ⟨as, e1, p1⟩ := h1
  obtain ⟨bs, e2, p2⟩ := h2
  refine .lst e1 e2 (by rw [List.length_map, List.length_map, Paired.length p1, Paired.length p2]) fun i x y hx hy => ?_
  rw [List.getElem?_map] at hx hy
  obtain ⟨a', ha, rfl⟩ := Option.map_eq_some_iff.mp hx
  obtain ⟨b', hb, rfl⟩ := Option.map_eq_some_iff.mp hy
  obtain ⟨r1, hr1, q1⟩ := Paired.at p1 ha
  obtain ⟨r2, hr2, q2⟩ := Paired.at p2 hb
  rw [hr1] at hr2
  cases hr2
  exact ev_ints q1 q2
theorem ev_sp {H : Hp} {a b : Addr} {f : Str → Int} {n : Nat} (h1 : H a = some (.dK (spK f))) (h2 : H b = some (.dK (spK f))) : Ev H (n + 1) (.ref a) (.ref b) := by
  have g : ∀ k x, (k, x) ∈ spK f → ∃ nm ∈ kSPECS, k = Sum.inr nm ∧ x = .int (f nm) := fun k x hk => by
    obtain ⟨nm, hn, e⟩ := List.mem_map.mp hk
    cases e
    exact ⟨nm, hn, rfl, rfl⟩
  refine .dct h1 h2 rfl (fun k x hk => ?_) fun k x y hk hy => ?_
  · obtain ⟨nm, hn, rfl, rfl⟩ := g k x hk
    rw [spK_at hn]
    rfl
  · obtain ⟨nm, hn, rfl, rfl⟩ := g k x hk
    rw [spK_at hn] at hy
    cases hy
    exact .int _ _
theorem ev_qs {H : Hp} {a b : Addr} {t k : List Int} {n : Nat} (h1 : QsAt H a t k) (h2 : QsAt H b t k) : Ev H (n + 2) (.ref a) (.ref b) := by
  obtain ⟨a1, b1, e1, x1, y1, _⟩ := h1
  obtain ⟨a2, b2, e2, x2, y2, _⟩ := h2
  have v1 : valV ([(Sum.inr "tty", .ref a2), (Sum.inr "keys", .ref b2)] : List (Key × V)) (Sum.inr "tty") = some (.ref a2) := rfl
  have v2 : valV ([(Sum.inr "tty", .ref a2), (Sum.inr "keys", .ref b2)] : List (Key × V)) (Sum.inr "keys") = some (.ref b2) := rfl
  refine .dct e1 e2 rfl (fun k x hk => ?_) fun k x y hk hy => ?_
  · simp only [List.mem_cons, List.not_mem_nil, or_false, Prod.mk.injEq] at hk
    rcases hk with ⟨rfl, rfl⟩ | ⟨rfl, rfl⟩
    · rw [v1]; rfl
    · rw [v2]; rfl
  · simp only [List.mem_cons, List.not_mem_nil, or_false, Prod.mk.injEq] at hk
    rcases hk with ⟨rfl, rfl⟩ | ⟨rfl, rfl⟩
    · rw [v1] at hy
      cases hy
      exact ev_ints x1 x2
    · rw [v2] at hy
      cases hy
      exact ev_ints y1 y2
theorem parts_ne {H : Hp} {l1 l2 : Addr} {bx : Bx} {Q : VK} (p1 : PartsAt H l1 bx) (p2 : PartsAt H l2 bx) (q : Q (.bl false) H) : rNeSame (.ref l1) (.ref l2) H Q := by
  obtain ⟨F1, s1, a1, o1, e1, f1, g1, h1, i1⟩ := p1
  obtain ⟨F2, s2, a2, o2, e2, f2, g2, h2, i2⟩ := p2
  refine ⟨l1, l2, _, _, rfl, rfl, e1, e2, rfl, fun i x y hx hy => ?_, q⟩
  match i, hx, hy with
  | 0, hx, hy => cases hx; cases hy; exact ev_fr f1 f2
  | 1, hx, hy => cases hx; cases hy; exact ev_sp g1 g2
  | 2, hx, hy => cases hx; cases hy; exact ev_qs h1 h2
  | 3, hx, hy => cases hx; cases hy; exact ev_qs i1 i2
  | i + 4, hx, hy => simp at hx
/-! ### mappings -/
def MapK (H : Hp) (kvs : List (Key × V)) (mp : Int → Option (Int × Str)) : Prop := ∀ n, match mp n with
  | none => valV kvs (Sum.inl n) = none
  | some (f, r) => ∃ t, valV kvs (Sum.inl n) = some (.ref t) ∧ H t = some (.tup [.int f, .str r])
theorem MapK.mono {H H' : Hp} {kvs : List (Key × V)} {mp : Int → Option (Int × Str)} (m : Tps H H') (h : MapK H kvs mp) : MapK H' kvs mp := fun n => by
  have z := h n
  cases e : mp n with
  | none => rw [e] at z; exact z
  | some p =>
    rw [e] at z
    obtain ⟨t, a, b⟩ := z
    exact ⟨t, a, m _ _ b⟩
theorem MapK.put {H : Hp} {kvs : List (Key × V)} {mp : Int → Option (Int × Str)} {n f : Int} {r : Str} {t : Addr} (h : MapK H kvs mp) (e : H t = some (.tup [.int f, .str r])) : MapK H (putK kvs (Sum.inl n) (.ref t)) (fun j => if j = n then some (f, r) else mp j) := fun j => by
  have z := h j
  by_cases hj : j = n
  · simp only [hj, if_true]
    exact ⟨t, by rw [valV_put, if_pos rfl], e⟩
  · have hk : (Sum.inl j : Key) ≠ Sum.inl n := fun w => hj (by cases w; rfl)
    simp only [if_neg hj]
    cases e2 : mp j with
    | none =>
      rw [e2] at z
      rw [valV_put, if_neg hk]
      exact z
    | some p =>
      rw [e2] at z
      obtain ⟨t', a, b⟩ := z
      exact ⟨t', by rw [valV_put, if_neg hk]; exact a, b⟩
theorem MapK.at {H : Hp} {a : Addr} {kvs : List (Key × V)} {mp : Int → Option (Int × Str)} (h : MapK H kvs mp) (e : H a = some (.dK kvs)) : MapAt H a mp := ⟨kvs, e, h⟩
theorem x_cps : ("x" : Str).cps.toList = [120] := by decide +kernel
theorem alike_of {c1 : Cv} (h1 : c1.mp 0 = some ((0 : Int), ("x" : Str))) : Alike c1 { c1 with mp := fun j => if j = 0 then some (4, "x") else c1.mp j } := by
  refine ⟨rfl, rfl, rfl, rfl, rfl, fun a => ?_, fun a => ?_⟩ <;> unfold spt <;> dsimp only <;> by_cases h : a.fdiv c1.g.pl = 0
  · rw [h, h1, if_pos rfl]
    dsimp only
    rw [x_cps]
    rfl
  · rw [if_neg h]
  · rw [h, h1, if_pos rfl]
    dsimp only
    rw [x_cps]
    rfl
  · rw [if_neg h]
theorem fetch_at {c : Cv} {n f : Int} (h : c.mp 0 = some (f, ("x" : Str))) (h0 : 0 ≤ n) (h1 : n < c.g.pl) : spt c n 120 = some (f, n) := by
  have e1 : n.fdiv c.g.pl = 0 := by
    rw [Int.fdiv_eq_ediv_of_nonneg _ (by omega)]
    exact Int.ediv_eq_zero_of_lt h0 h1
  have e2 : n.fmod c.g.pl = n := by
    rw [Int.fmod_eq_emod_of_nonneg _ (by omega)]
    exact Int.emod_eq_of_lt h0 h1
  unfold spt
  rw [e1, h]
  dsimp only
  rw [x_cps, e2]
  rfl
theorem wat_0 {r0 r1 r2 r3 r4 : List Int} {n : Nat} (h : n < r0.length) : wat [r0, r1, r2, r3, r4] 0 n = r0[n] := by
  show (r0[((n : Nat) : Int).toNat]?).getD 0 = _
  rw [Int.toNat_natCast, List.getElem?_eq_getElem h]
  rfl
theorem wat_4 {r0 r1 r2 r3 : List Int} {g : Gd} {db : List Str} {st : Int} {n : Nat} (h : n < r0.length) : wat [r0, r1, r2, r3, cpw g db r0 st] 4 n = if ((n : Nat) : Int) ∈ dbt g db r0 then st else r0[n] := by
  show ((cpw g db r0 st)[((n : Nat) : Int).toNat]?).getD 0 = _
  rw [Int.toNat_natCast, cpw_at h]
  rfl
section
variable {c : Cv} {r0 r1 r2 r3 : List Int} {db : List Str} {st : Int} {n : Nat} {rs : List Int}
/-- the doubted and the stop words: the copy stops -/
theorem plain_stop (ef : c.fr = [r0, r1, r2, r3, cpw c.g db r0 st]) (hst : (stops c.g).head? = some st) (hn : n < r0.length) (hp : (n : Int) < c.g.pl) (h : ((n : Nat) : Int) ∈ dbt c.g db r0 ∨ r0[n] ∈ stops c.g) :
    ∃ nm ds, bareM { c with mp := fun j => if j = 0 then some (4, "x") else c.mp j } rs n = .inl (.t (.s nm :: ds)) ∧ (nm = "code" ∨ nm = "trap") := by
  refine bareM_stop (fetch_at (f := 4) (by simp) (by omega) hp) ?_
  show isStop c.g (wat c.fr 4 n) = true
  rw [ef, wat_4 hn]
  split
  · exact stops_stop hst
  · rcases h with h | h
    · contradiction
    · unfold stops at h
      exact (List.mem_filter.mp h).2
/-- all others: no difference -/
theorem plain_same (ef : c.fr = [r0, r1, r2, r3, cpw c.g db r0 st]) (h0 : c.mp 0 = some ((0 : Int), ("x" : Str))) (hn : n < r0.length) (hp : (n : Int) < c.g.pl) (h : ((n : Nat) : Int) ∉ dbt c.g db r0) :
    bareM { c with mp := fun j => if j = 0 then some (4, "x") else c.mp j } rs n = bareM c rs n := by
  refine (bareM_alike (alike_of h0) (fetch_at h0 (by omega) hp) (fetch_at (f := 4) (by simp) (by omega) hp) ?_).symm
  show wat c.fr 0 n = wat c.fr 4 n
  rw [ef, wat_4 hn, wat_0 hn, if_neg h]
end
end
end W73
set_option Elab.async false
set_option linter.all false
set_option maxRecDepth 100000
set_option maxHeartbeats 4000000
namespace W73
open PySem PySem.Spec PyProof.Rows L2
open C8 (Cal Met Mak pe_c pe_mk pe_mt pe_mt0 pe_gc pss_cut tCut)
section
variable {P : Program} {w : World} {K : PySem.W.Frag} {mg : Str → Option Value} {base : Heap}
theorem st_in {g : Gd} {st : Int} (h : (stops g).head? = some st) : inW g st := by
  have : st ∈ stops g := List.mem_of_head? h
  unfold stops at this
  obtain ⟨i, hi, e⟩ := List.mem_map.mp (List.mem_filter.mp this).1
  have := List.mem_range.mp hi
  exact ⟨by omega, by omega⟩
theorem ne_refs {H : Hp} {x F a : Addr} {xs : List Int} {l : List V} (e1 : H x = some (.lst (xs.map V.int))) (e2 : H F = some (.lst (.ref a :: l))) : x ≠ F := fun z => by
  rw [z, e2] at e1
  cases xs with
  | nil => simp at e1
  | cons y ys => simp at e1
theorem nw_made {H H' : Hp} {y dy : Addr} {o1 o2 : HO} (hy : H y = none) (hd : H dy = none) : Same (Nw (Wo [y] (upd (upd H dy o1) y o2)) H') (Nw H H') := fun b u e => Nw.at (by
  cases q : H b with
  | none => rfl
  | some v =>
    have z := Nw.fresh e
    rw [Wo.at ((upd_ne (fun w => by rw [w, hy] at q; cases q)).trans ((upd_ne (fun w => by rw [w, hd] at q; cases q)).trans q)) (by simp only [List.mem_cons, List.not_mem_nil, or_false]; exact fun w => by rw [w, hy] at q; cases q)] at z
    cases z) (Nw.to _ _ e)
theorem wo_none {S : List Addr} {H H' : Hp} (m : Same H H') (h : ∀ x ∈ S, H x = none) : Same H (Wo S H') := fun b u e => Wo.at (m _ _ e) fun z => by
  rw [h b z] at e
  cases e
def TL (H H' : Hp) : Prop := ∀ x u, H x = some u → ((∃ l, u = .tup l) ∨ ∃ l, u = .lst l) → H' x = some u
theorem TL.of {H H' : Hp} (m : Same H H') : TL H H' := fun x u e _ => m _ _ e
theorem TL.trans {H H1 H2 : Hp} (a : TL H H1) (b : TL H1 H2) : TL H H2 := fun x u e h => b x u (a x u e h) h
theorem TL.put {H : Hp} {p : Addr} {o u : HO} (h : H p = some u) (h1 : ∀ xs, u ≠ .tup xs) (h2 : ∀ xs, u ≠ .lst xs) : TL H (upd H p o) := fun x v e k => (upd_ne fun z => by
  rw [z, h] at e
  cases e
  rcases k with ⟨l, rfl⟩ | ⟨l, rfl⟩
  · exact h1 _ rfl
  · exact h2 _ rfl).trans e
theorem TL.wo {S : List Addr} {H H' : Hp} (m : Same (Wo S H) (Wo S H')) (h : ∀ x ∈ S, ∃ u, H x = some u ∧ (∀ xs, u ≠ .tup xs) ∧ ∀ xs, u ≠ .lst xs) : TL H H' := fun x u e k => Wo.to _ _ (m _ _ (Wo.at e fun z => by
  obtain ⟨v, e1, n1, n2⟩ := h x z
  rw [e] at e1
  cases e1
  rcases k with ⟨l, rfl⟩ | ⟨l, rfl⟩
  · exact n1 _ rfl
  · exact n2 _ rfl))
theorem TL.tps {H H' : Hp} (m : TL H H') : Tps H H' := fun x xs e => m x _ e (.inl ⟨_, rfl⟩)
theorem EndAt.mono {H H' : Hp} {v : V} {r : Res} (m : TL H H') (h : EndAt H v r) : EndAt H' v r := by
  cases r with
  | inl d => exact TD'.mono m.tps h
  | inr z =>
    obtain ⟨rs, n, b⟩ := z
    obtain ⟨t, l, e0, e1, e2⟩ := h
    exact ⟨t, l, e0, m _ _ e1 (.inl ⟨_, rfl⟩), m _ _ e2 (.inr ⟨_, rfl⟩)⟩
theorem Wo.tpT {S : List Addr} {H : Hp} (h : ∀ x ∈ S, ∃ u, H x = some u ∧ ∀ xs, u ≠ .tup xs) : Tps H (Wo S H) := fun b xs e => Wo.at e fun z => by
  obtain ⟨u, e1, n⟩ := h b z
  rw [e] at e1
  cases e1
  exact n _ rfl
theorem BoxAt.ins {H : Hp} {b q m : Addr} {bx : Bx} (h : BoxAt K H b q m bx) : ∃ dx F s o, H b = some (.ins (C_Box K) dx [("ground", .ref m), ("frame_rows", .ref F), ("special_words", .ref s), ("answer_rows", .ref q), ("out_rows", .ref o)]) := by
  obtain ⟨dx, F, s, o, e, _⟩ := h
  exact ⟨dx, F, s, o, e⟩
theorem BoxAt.dct {H : Hp} {b q m : Addr} {bx : Bx} (h : BoxAt K H b q m bx) : ∃ kvs, H q = some (.dK kvs) := by
  obtain ⟨dx, F, s, o, e, _, _, _, a, b, h, _⟩ := h
  exact ⟨_, h⟩
theorem frs_len {cs : List (List Key × V)} : ∀ (l : List (List Key × V)) (fr : List (List Int)), (l.foldl (put2 cs) fr).length = fr.length
  | [], _ => rfl
  | k :: l, fr => by
    rw [List.foldl_cons, frs_len l, put2_len]
theorem bare_len {c : Cv} {rs rs' : List Int} {n n' : Int} {b : Bx} (e : bareM c rs n = .inr (rs', n', b)) : b.fr.length = c.fr.length := by
  unfold bareM at e
  cases h : tr c rs n with
  | inl d => rw [h] at e; cases e
  | inr z =>
    obtain ⟨ns, ms⟩ := z
    rw [h] at e
    cases e
    exact frs_len _ _
def sp_law (K : PySem.W.Frag) : Sp := sp1 fun a H Q => ∃ p, ∃ ns : List Int, a = .ref p ∧ SqL K H p (ns.map V.int) ∧ ns.length ≤ 1000000 ∧ ∀ H', Q (.bl true) H'
theorem law_body (T : Tz P w K mg) (f : Addr) : BodyOk P w K mg base 16 ["_law_script", "_law_source_here", "_law_turn", "_law_house_here", "_law_meaning", "_law_names", "_law_doubted", "_law_frames", "_law_specials", "_law_queues", "_law_registers", "_law_place", "_law_mapping", "_law_page", "_law_first", "_law_last", "_law_before", "_law_early", "_law_late", "_law_word", "_law_spots", "_law_one", "_law_name", "_law_k"] "law" s_law f (sp_law K) := by
  have c_law_source : Cal P w K mg base 1 "_law_source" (sp_source K) [] := ok_source T
  have c_law_pick : Cal P w K mg base 1 "_law_pick" sp_pick [] := ok_pick T
  have c_law_any_house : Cal P w K mg base 16 "_law_any_house" (sp_house K) [] := ok_any_house T
  have c_stop_word : Cal P w K mg base 5 "stop_word" (sp_stop_word K) [] := ok_stop_word T
  have c_stop_words : Cal P w K mg base 4 "stop_words" (sp_stop_words K) [] := ok_stop_words T
  have c_law_box : Cal P w K mg base 2 "_law_box" (sp_box K) [] := ok_box T
  have c_copied_words : Cal P w K mg base 6 "copied_words" (sp_copied K) [] := ok_copied T
  have c_doubtful_places : Cal P w K mg base 4 "doubtful_places" (sp_doubtful K) [] := ok_doubtful T
  have c_law_parts : Cal P w K mg base 2 "_law_parts" (sp_parts K) [] := ok_parts T
  have c_Box : Mak P w K mg base 6 "Box" (C_Box K) (sp_Box_init K) [] := ok_Box_init T
  have c_Box_bare : Met P w K mg base 8 (C_Box K) "bare" (sp_bare K) [] := ok_bare T
  intro cdv A outer s H vs Q E hr h
  obtain ⟨_, rfl, p, ns, rfl, hp, hl, k⟩ := h
  have hu := hu_of hr
  have hz := sizeL
  refine ⟨_, (pss_cons (ps_set (i := 1) sc_law.nd rfl (Or.inr rfl) (pe_c c_law_source hr (by first | decide | omega) rfl (pa_cons (pv 0) pa_nil)))
    (pss_cons (ps_for PassesOwn.never rfl (pi_range1 (by rfl) T.b_range (pa_cons pe_int pa_nil)) (pg_name (i := 2) sc_law.nd rfl (Or.inl rfl)) (pss_cons (ps_set (i := 3) sc_law.nd rfl (Or.inr rfl) (pe_c c_law_any_house hr (by first | decide | omega) rfl (pa_cons (pv 1) (pa_cons pe_bl (pa_cons (pe_op op_add pe_int (pe_c c_law_pick hr (by first | decide | omega) rfl (pa_cons (pv 1) (pa_cons pe_int pa_nil)))) pa_nil)))))
    (pss_cons (ps_set (i := 4) sc_law.nd rfl (Or.inl rfl) (pe_dget hu (pv 3) pe_str (fun _ _ => rfl)))
    (pss_cons (ps_if (pt_cmpR op_isN (pe_c c_stop_word hr (by first | decide | omega) rfl (pa_cons (pv 4) pa_nil)) pe_non (nomark _)) (pss_one ps_continue) pss_nil)
    (pss_cons (ps_setLc (i := 5)  (own := [("_law_one", 21)]) (g := gName 21) (tt := tYes) (by rfl) sc_law.nd rfl rfl (sw_true rfl rfl rfl (by decide +kernel)) (pi_list (pe_dget hu (pv 3) pe_str (fun _ _ => rfl))) (blkOk_by (N := ["_law_script", "_law_source_here", "_law_turn", "_law_house_here", "_law_meaning", "_law_names", "_law_doubted", "_law_frames", "_law_specials", "_law_queues", "_law_registers", "_law_place", "_law_mapping", "_law_page", "_law_first", "_law_last", "_law_before", "_law_early", "_law_late", "_law_word", "_law_spots", "_law_one", "_law_name", "_law_k"]) (sc := defScope s_law) (by decide +kernel)) (fun _ _ _ _ _ => (pg_name (i := 21) sc_law.nd rfl (Or.inl rfl))) (fun _ _ _ _ _ => pts_nil) (fun _ _ _ _ _ => (pe_ix ix_tupH (pv 21) pe_int (fun _ _ => rfl))))
    (pss_cons (ps_setLc (i := 6)  (own := [("_law_name", 22)]) (g := gName 22) (by rfl) sc_law.nd rfl rfl (sw_true rfl rfl rfl (by decide +kernel)) (pi_list (pv 5)) (blkOk_by (N := ["_law_script", "_law_source_here", "_law_turn", "_law_house_here", "_law_meaning", "_law_names", "_law_doubted", "_law_frames", "_law_specials", "_law_queues", "_law_registers", "_law_place", "_law_mapping", "_law_page", "_law_first", "_law_last", "_law_before", "_law_early", "_law_late", "_law_word", "_law_spots", "_law_one", "_law_name", "_law_k"]) (sc := defScope s_law) (by decide +kernel)) (fun _ _ _ _ _ => (pg_name (i := 22) sc_law.nd rfl (Or.inl rfl))) (fun _ _ _ _ _ => pts_one (pt_cmpR op_eq (pe_c c_law_pick hr (by first | decide | omega) rfl (pa_cons (pv 1) (pa_cons pe_int pa_nil))) pe_int (nomark _))) (fun _ _ _ _ _ => (pv 22)))
    (pss_cons (ps_asg (pe_c c_law_box hr (by first | decide | omega) rfl (pa_cons (pv 1) (pa_cons (pv 3) pa_nil))) (pg_unl rfl (pgs_cons (pg_name (i := 7) sc_law.nd rfl (Or.inl rfl)) (pgs_cons (pg_name (i := 8) sc_law.nd rfl (Or.inl rfl)) (pgs_cons (pg_name (i := 9) sc_law.nd rfl (Or.inl rfl)) pgs_nil)))))
    (pss_cons (ps_asg (pe_c c_copied_words hr (by first | decide | omega) rfl (pa_cons (pv 4) (pa_cons (pv 6) (pa_cons (pe_ix ix_list (pv 7) pe_int (fun _ _ => rfl)) pa_nil)))) (pg_sub (pv 7) pe_int set_list))
    (pss_cons (ps_setLc (i := 10)  (own := [("_law_k", 23)]) (g := gName 23) (tt := tYes) (by rfl) sc_law.nd rfl rfl (sw_true rfl rfl rfl (by decide +kernel)) (pi_range1 (by rfl) T.b_range (pa_cons (pe_dget hu (pv 3) pe_str (fun _ _ => rfl)) pa_nil)) (blkOk_by (N := ["_law_script", "_law_source_here", "_law_turn", "_law_house_here", "_law_meaning", "_law_names", "_law_doubted", "_law_frames", "_law_specials", "_law_queues", "_law_registers", "_law_place", "_law_mapping", "_law_page", "_law_first", "_law_last", "_law_before", "_law_early", "_law_late", "_law_word", "_law_spots", "_law_one", "_law_name", "_law_k"]) (sc := defScope s_law) (by decide +kernel)) (fun _ _ _ _ _ => (pg_name (i := 23) sc_law.nd rfl (Or.inl rfl))) (fun _ _ _ _ _ => pts_nil) (fun _ _ _ _ _ => (pe_c c_law_pick hr (by first | decide | omega) rfl (pa_cons (pv 1) (pa_cons (pe_dget hu (pv 3) pe_str (fun _ _ => rfl)) pa_nil)))))
    (pss_cons (ps_set (i := 11) sc_law.nd rfl (Or.inl rfl) (pe_c c_law_pick hr (by first | decide | omega) rfl (pa_cons (pv 1) (pa_cons (pe_dget hu (pv 3) pe_str (fun _ _ => rfl)) pa_nil))))
    (pss_cons (ps_set (i := 12) sc_law.nd rfl (Or.inl rfl) (pe_disp (pps_cons pe_int (pe_tup (pa_cons pe_int (pa_cons pe_str pa_nil))) pps_nil) (by rfl) (by rfl) (fun z => by cases z) (by decide)))
    (pss_cons (ps_for PassesOwn.never rfl (pi_range2 (by rfl) T.b_range (pa_cons pe_int (pa_cons (pe_dget hu (pv 3) pe_str (fun _ _ => rfl)) pa_nil))) (pg_name (i := 13) sc_law.nd rfl (Or.inl rfl)) (pss_one (ps_dput hu (pv 12) (pv 13) (pe_tup (pa_cons (pe_op op_add pe_int (pe_c c_law_pick hr (by first | decide | omega) rfl (pa_cons (pv 1) (pa_cons pe_int pa_nil)))) (pa_cons (pe_ix ix_list (pe_lst (pa_cons pe_str (pa_cons pe_str (pa_cons pe_str pa_nil)))) (pe_c c_law_pick hr (by first | decide | omega) rfl (pa_cons (pv 1) (pa_cons pe_int pa_nil))) (fun _ _ => rfl)) pa_nil))) rfl)))
    (pss_cons (ps_par (i := 14) (j := 15) rfl sc_law.nd rfl rfl (by decide) rfl rfl (pa_cons (pe_mk c_Box hr (by first | decide | omega) rfl (pa_cons (pv 4) (pa_cons (pv 7) (pa_cons (pv 8) (pa_cons (pv 9) pa_nil))))) (pa_cons (pe_mk c_Box hr (by first | decide | omega) rfl (pa_cons (pv 4) (pa_cons (pv 7) (pa_cons (pv 8) (pa_cons (pv 9) pa_nil))))) pa_nil)) (by rfl))
    (pss_cons (ps_set (i := 16) sc_law.nd rfl (Or.inl rfl) (pe_c c_law_parts hr (by first | decide | omega) rfl (pa_cons (pv 15) pa_nil)))
    (pss_cons (ps_set (i := 17) sc_law.nd rfl (Or.inl rfl) (pe_mt c_Box_bare hr (by first | decide | omega) (pv 14) (pa_cons (pv 12) (pa_cons (pv 10) (pa_cons (pv 11) pa_nil)))))
    (pss_cons (ps_dput hu (pv 12) pe_int (pe_tup (pa_cons pe_int (pa_cons pe_str pa_nil))) rfl)
    (pss_cons (ps_set (i := 18) sc_law.nd rfl (Or.inl rfl) (pe_mt c_Box_bare hr (by first | decide | omega) (pv 15) (pa_cons (pv 12) (pa_cons (pv 10) (pa_cons (pv 11) pa_nil)))))
    (pss_cons (ps_set (i := 19) sc_law.nd rfl (Or.inl rfl) (pe_ix ix_list (pe_ix ix_list (pv 7) pe_int (fun _ _ => rfl)) (pv 11) (fun _ _ => rfl)))
    (pss_cons (ps_set (i := 20) sc_law.nd rfl (Or.inl rfl) (pe_c c_doubtful_places hr (by first | decide | omega) rfl (pa_cons (pv 4) (pa_cons (pv 6) (pa_cons (pe_ix ix_list (pv 7) pe_int (fun _ _ => rfl)) pa_nil)))))
    (pss_one (ps_if (PW.pt (pw_or (pt_cmpR op_in_seq (pv 11) (pv 20) rfl) (pw_or1 (pt_cmpR op_in_seq (pv 19) (pe_c c_stop_words hr (by first | decide | omega) rfl (pa_cons (pv 4) pa_nil)) rfl)))) (pss_one (ps_if (PW.pt (pw_or (pt_cmpR op_notIn_seq (pe_ix ix_tup (pv 18) pe_int (fun _ _ => rfl)) (pe_lst (pa_cons pe_str (pa_cons pe_str pa_nil))) rfl) (pw_or1 (pt_cmpR (op_neSame hr.units) (pe_c c_law_parts hr (by first | decide | omega) rfl (pa_cons (pv 15) pa_nil)) (pv 16) (nomark _))))) (pss_one (ps_ret pe_bl)) pss_nil)) (pss_one (ps_if (PW.pt (pw_or (pt_cmpR (op_neD hr.units) (pv 18) (pv 17) (nomark _)) (pw_or1 (pt_cmpR (op_neSame hr.units) (pe_c c_law_parts hr (by first | decide | omega) rfl (pa_cons (pv 14) pa_nil)) (pe_c c_law_parts hr (by first | decide | omega) rfl (pa_cons (pv 15) pa_nil)) (nomark _))))) (pss_one (ps_ret pe_bl)) pss_nil)))))))))))))))))))))))
    (pss_one (ps_ret pe_bl)))), ?_⟩
  refine ⟨_, rfl, _, rfl, p, ns, rfl, hp, hl, fun s c H1 m1 s1' => ?_⟩
  have s1 := s1'.same Nw.to
  clear s1' m1 hp
  dsimp only
  show tSeq (tFor _ _ _) _ _ [some (.ref p), some (.ref s), none, none, none, none, none, none, none, none, none, none, none, none, none, none, none, none, none, none, none, none, none, none] H1
  refine ⟨6, rfl, by omega, by omega, ?_⟩
  refine for_range (lo := 0) (n := 6) (fun i σ H' => ∃ (v2 v3 v4 v5 v6 v7 v8 v9 v10 v11 v12 v13 v14 v15 v16 v17 v18 v19 v20 : Option V), σ = [some (.ref p), some (.ref s), v2, v3, v4, v5, v6, v7, v8, v9, v10, v11, v12, v13, v14, v15, v16, v17, v18, v19, v20, none, none, none] ∧ Src s c H') ⟨_, _, _, _, _, _, _, _, _, _, _, _, _, _, _, _, _, _, _, rfl, s1⟩ ?_ ?_
  · rintro i σ H2 hi ⟨v2, v3, v4, v5, v6, v7, v8, v9, v10, v11, v12, v13, v14, v15, v16, v17, v18, v19, v20, rfl, hs⟩
    refine ⟨_, rfl, _, rfl, _, _, rfl, s, c, 4, rfl, hs, rfl, by omega, fun z H3 s3 m3 z0 z1 => ⟨_, _, rfl, rfl, _, _, _, rfl, s, c, _, rfl, s3, rfl, rfl, by omega, by omega, fun H4 h g s4 m4 X => ?_⟩⟩
    clear m3 m4 z0 z1 s3 hs s1
    obtain ⟨⟨il, ca, po, bk, tb, en0, co0, m, tf, hh', ⟨us, eil0, tis'⟩, hbk, hta, hot, hM⟩, gok, ne, r2, r4, p3, p5, q2⟩ := id X
    have q5 := gok.pg1
    have w6 : 6 ≤ g.wd := gok.six
    have w25 : g.wd ≤ 25 := by
      have : g.pl * g.pg ≤ 5 * 5 := Int.mul_le_mul p5 (Int.le_trans q5 p5) (by omega) (by omega)
      unfold Gd.wd
      omega
    have nh := wo_not hh'
    have hh := Wo.to _ _ hh'
    have nil := wo_not eil0
    have eil := Wo.to _ _ eil0
    have tis := tis'.mono (.of Wo.to)
    have lus := tis.length
    rw [List.length_map] at lus
    have lis := gok.gi.le
    have hg : ∀ {x : Str} {v : V} {H' : Hp} {l : List (Addr × HO)}, Own s c H4 H' l → valV (houseB g.r il ca po bk g.pl g.pg tb en0 co0 m) (Sum.inr x) = some v → DGet H' h (.str x) (some v) := fun o e => .inl ⟨_, Sum.inr _, .inl (o.old nh hh), rfl, e.symm⟩
    have o0 := Own.start s4
    refine ⟨_, rfl, h, .ref m, rfl, hg o0 rfl, ?_⟩
    refine ⟨_, rfl, _, rfl, m, g, rfl, hM.same Wo.to, gok, fun H5 m5 => ?_⟩
    have o1 := o0.same m5
    clear m5
    cases hst : (stops g).head? with
    | none =>
      exact ⟨rfl, _, rfl, iteT ⟨_, _, _, _, _, _, _, _, _, _, _, _, _, _, _, _, _, _, _, rfl, o1.1⟩⟩
    | some st =>
    refine ⟨rfl, _, rfl, iteF ?_⟩
    dsimp only [tNext]
    show tSeq (tAsg (tLc _ _ _ _ _) _) _ _ [some (.ref p), some (.ref s), some (.int (0 + (i : Int))), some (.ref h), some (.ref m), v5, v6, v7, v8, v9, v10, v11, v12, v13, v14, v15, v16, v17, v18, v19, v20, none, none, none] H5
    clear hbk hta hot
    refine st_any ⟨_, rfl, h, .ref il, rfl, hg o1 rfl, il, rfl, ⟨_, .inl (.inl (o1.old nil eil))⟩, fun N hN => ?_⟩
    refine lc_it (walk_list (xs := us)) (fun i H' => Own s c H4 H' [(N, .lst (((g.is.take i).map Ins.nm).map V.str))]) (o1.add hN) (fun i H' _ o => .inl (.inl (o.old nil eil))) (fun i x H6 H7 hi o y => ?_) fun H6 o2 => ?_
    · obtain ⟨rfl, hy⟩ := y
      obtain ⟨d, hd, td⟩ := TDs.get' (tis.mono (o.tp0 s4)) hy
      rw [List.getElem?_map] at hd
      obtain ⟨ins, hin, rfl⟩ := Option.map_eq_some_iff.mp hd
      obtain ⟨a, v2', v3', rfl, ha, _, _⟩ := Ins.cases td
      refine ⟨rfl, yesI ⟨_, rfl, a, _, _, .str ins.nm, rfl, rfl, ha, atI_nat (j := 0) rfl, _, o.at 0 rfl, by rw [List.length_map, List.length_map, List.length_take]; omega, ?_⟩⟩
      have := o.set (u' := .lst (((g.is.take i).map Ins.nm).map V.str ++ [.str ins.nm])) 0 rfl
      rw [List.take_add_one, hin, List.map_append, List.map_append]
      exact this
    rw [← lus, List.take_length] at o2
    clear o1
    dsimp only [gName]
    show tSeq (tAsg (tLc _ _ _ _ _) _) _ _ [some (.ref p), some (.ref s), some (.int (0 + (i : Int))), some (.ref h), some (.ref m), some (.ref N), v6, v7, v8, v9, v10, v11, v12, v13, v14, v15, v16, v17, v18, v19, v20, none, none, none] H6
    refine st_any ⟨_, rfl, N, rfl, ⟨_, .inl (.inl (o2.at 0 rfl))⟩, fun Dd hDd => ?_⟩
    refine lc_it (walk_list (xs := (g.is.map Ins.nm).map V.str)) (fun i H' => ∃ db : List Str, Own s c H4 H' [(Dd, .lst (db.map V.str)), (N, .lst ((g.is.map Ins.nm).map V.str))] ∧ db.length ≤ i) ⟨[], o2.add hDd, Nat.zero_le _⟩ (fun i H' _ ⟨_, o, _⟩ => .inl (.inl (o.at 1 rfl))) (fun i x H7 H8 hi ⟨db, o, ld⟩ y => ?_) fun H7 ⟨db, o3, _⟩ => ?_
    · obtain ⟨rfl, hy⟩ := y
      rw [List.getElem?_map] at hy
      obtain ⟨nm, _, rfl⟩ := Option.map_eq_some_iff.mp hy
      rw [List.length_map, List.length_map] at hi
      dsimp only [tTest, tOp]
      refine ⟨rfl, draw1 (n := 2) o (fun _ q => ⟨_, rfl, q⟩) (by omega) fun z H9 o t _ _ => ⟨rfl, _, rfl, ite2 (fun _ => ?_) fun _ => ⟨db, o, by omega⟩⟩⟩
      refine ⟨_, rfl, _, o.at 0 rfl, by rw [List.length_map]; omega, db ++ [nm], ?_, by rw [List.length_append]; show db.length + 1 ≤ _; omega⟩
      have := o.set (u' := .lst (db.map V.str ++ [.str nm])) 0 rfl
      rw [List.map_append]
      exact this
    clear o2
    dsimp only [gName]
    show tSeq (tAsg _ _) _ _ [some (.ref p), some (.ref s), some (.int (0 + (i : Int))), some (.ref h), some (.ref m), some (.ref N), some (.ref Dd), v7, v8, v9, v10, v11, v12, v13, v14, v15, v16, v17, v18, v19, v20, none, none, none] H7
    refine st_any ⟨_, rfl, _, rfl, _, _, rfl, s, c, h, g, rfl, o3.1, rfl, X.same o3.2.1, fun L F sp q fr f ks H8 s8 m8 eL eF lfr hfr eS hf fm eQ hk lk => ?_⟩
    refine ⟨L, _, rfl, .inl (.inl eL), rfl, _, _, rfl, _, _, rfl, _, _, rfl, rfl, ?_⟩
    show tSeq (tAsg _ _) _ _ [some (.ref p), some (.ref s), some (.int (0 + (i : Int))), some (.ref h), some (.ref m), some (.ref N), some (.ref Dd), some (.ref F), some (.ref sp), some (.ref q), v10, v11, v12, v13, v14, v15, v16, v17, v18, v19, v20, none, none, none] H8
    obtain ⟨as, eF, pF⟩ := eF
    obtain ⟨r0, r1, r2', r3, r4', rfl⟩ : ∃ a b c d e, fr = [a, b, c, d, e] := by
      match fr, lfr with
      | [a, b, c, d, e], _ => exact ⟨a, b, c, d, e, rfl⟩
    obtain ⟨a0, a1, a2, a3, a4, rfl, u0, u1, u2, u3, u4⟩ : ∃ a b c d e, as = [a, b, c, d, e] ∧ Nw H7 H8 a = some (.lst (r0.map V.int)) ∧ Nw H7 H8 b = some (.lst (r1.map V.int)) ∧ Nw H7 H8 c = some (.lst (r2'.map V.int)) ∧ Nw H7 H8 d = some (.lst (r3.map V.int)) ∧ Nw H7 H8 e = some (.lst (r4'.map V.int)) := by
      cases pF with
      | cons t0 pF =>
      cases pF with
      | cons t1 pF =>
      cases pF with
      | cons t2 pF =>
      cases pF with
      | cons t3 pF =>
      cases pF with
      | cons t4 pF =>
      cases pF
      exact ⟨_, _, _, _, _, rfl, t0, t1, t2, t3, t4⟩
    have o8 := o3.draw s8 m8
    have hr0 := hfr r0 (by simp)
    have r0l : r0.length ≤ 1000 := by have := hr0.1; omega
    have zF := Nw.fresh eF
    have hF8 := Nw.to _ _ eF
    refine st_any ⟨_, rfl, _, rfl, _, rfl, F, _, 0, .ref a0, rfl, rfl, .inl (.inl hF8), atI_nat (j := 0) rfl, _, _, _, rfl, m, g, Dd, db, a0, st, r0, rfl, (hM.same o8.2.1).same Wo.to, gok, rfl, o8.at 0 rfl, rfl, Nw.to _ _ u0, r0l, hst, fun w9 H9 m9 z9 e9 => ?_⟩
    refine ⟨_, rfl, F, _, 4, 4, rfl, rfl, m9 _ _ hF8, rfl, ?_⟩
    have ⟨zF4, nF, _⟩ := o3.fresh zF
    have nw : ∀ {x u}, Nw H7 H8 x = some u → x ≠ F → Wo [s, c] (upd H9 F (.lst [.ref a0, .ref a1, .ref a2, .ref a3, .ref w9])) x = some u := fun {x u} e n => Wo.at ((upd_ne n).trans (m9 _ _ (Nw.to _ _ e))) (o3.fresh (Nw.fresh e)).2.1
    have s10 : Src s c (upd H9 F (.lst [.ref a0, .ref a1, .ref a2, .ref a3, .ref w9])) := (o8.1.same m9).put nF
    have f10 : Same (Wo [s, c] H4) (Wo [s, c] (upd H9 F (.lst [.ref a0, .ref a1, .ref a2, .ref a3, .ref w9]))) := Wo.mut (o8.2.1.trans (Wo.mono m9)) zF4
    have w0 := nw u0 (ne_refs u0 eF)
    have w1 := nw u1 (ne_refs u1 eF)
    have w2 := nw u2 (ne_refs u2 eF)
    have w3 := nw u3 (ne_refs u3 eF)
    have wS := nw eS (ne_kind eS eF (by simp))
    have wQ : QsAt (Wo [s, c] (upd H9 F (.lst [.ref a0, .ref a1, .ref a2, .ref a3, .ref w9]))) q [] ks := by
      obtain ⟨qa, qb, x1, x2, x3, x4⟩ := eQ
      exact ⟨qa, qb, nw x1 (ne_kind x1 eF (by simp)), nw x2 (ne_refs (xs := []) x2 eF), nw x3 (ne_refs x3 eF), x4⟩
    have w9' : Wo [s, c] (upd H9 F (.lst [.ref a0, .ref a1, .ref a2, .ref a3, .ref w9])) w9 = some (.lst ((cpw g db r0 st).map V.int)) := Wo.at ((upd_ne fun z => by rw [z, hF8] at z9; cases z9).trans e9) (o8.fresh z9).2.1
    have wF : FrAt (Wo [s, c] (upd H9 F (.lst [.ref a0, .ref a1, .ref a2, .ref a3, .ref w9]))) F [r0, r1, r2', r3, cpw g db r0 st] := ⟨[a0, a1, a2, a3, w9], Wo.at upd_same nF, .cons w0 (.cons w1 (.cons w2 (.cons w3 (.cons w9' .nil))))⟩
    have wD : Wo [s, c] (upd H9 F (.lst [.ref a0, .ref a1, .ref a2, .ref a3, .ref w9])) Dd = some (.lst (db.map V.str)) := Wo.at ((upd_ne fun z => by have := o3.at 0 rfl; rw [z, zF] at this; cases this).trans (m9 _ _ (o8.at 0 rfl))) (o8.2.2.1 (Dd, .lst (db.map V.str)) (by simp)).2.1
    dsimp only
    show tSeq (tAsg (tLc _ _ _ _ _) _) _ _ [some (.ref p), some (.ref s), some (.int (0 + (i : Int))), some (.ref h), some (.ref m), some (.ref N), some (.ref Dd), some (.ref F), some (.ref sp), some (.ref q), v10, v11, v12, v13, v14, v15, v16, v17, v18, v19, v20, none, none, none] (upd H9 F (.lst [.ref a0, .ref a1, .ref a2, .ref a3, .ref w9]))
    have X10 := X.same f10
    have hM10 := hM.same f10
    have hh10 := f10 _ _ hh'
    generalize upd H9 F (.lst [.ref a0, .ref a1, .ref a2, .ref a3, .ref w9]) = H10 at s10 f10 w0 w1 w2 w3 wS wQ w9' wF wD X10 hM10 hh10 ⊢
    have fr5 : ∀ row ∈ [r0, r1, r2', r3, cpw g db r0 st], (row.length : Int) = g.pl ∧ ∀ n ∈ row, inW g n := fun row hrow => by
      simp only [List.mem_cons, List.not_mem_nil, or_false] at hrow
      rcases hrow with rfl | rfl | rfl | rfl | rfl
      · exact hfr _ (by simp)
      · exact hfr _ (by simp)
      · exact hfr _ (by simp)
      · exact hfr _ (by simp)
      · refine ⟨by rw [cpw_len]; exact hr0.1, fun n hn => ?_⟩
        unfold cpw at hn
        obtain ⟨j, hj, rfl⟩ := List.mem_map.mp hn
        have hj := List.mem_range.mp hj
        split
        · exact st_in hst
        · rw [List.getElem?_eq_getElem hj]
          exact hr0.2 _ (List.getElem_mem hj)
    clear o8 o3 nw u0 u1 u2 u3 u4 eF hF8 m9 z9 e9 zF zF4 nF m8 s8 eL eS eQ hfr lfr f10 hM X s4 hg o0 tis tis' eil eil0 nil hh hh' nh w1 w2 w3 w9' w0
    have ohh := wo_not hh10
    have hg : ∀ {x : Str} {v : V} {H' : Hp} {l : List (Addr × HO)}, Own s c H10 H' l → valV (houseB g.r il ca po bk g.pl g.pg tb en0 co0 m) (Sum.inr x) = some v → DGet H' h (.str x) (some v) := fun o e => .inl ⟨_, Sum.inr _, .inl (o.old ohh (Wo.to _ _ hh10)), rfl, e.symm⟩
    have o0 := Own.start s10
    refine st_any (draw_lc (s := s) (c := c) (H0 := H10) (l := []) (fun n => (n : Int) = g.r) (inW g) (fun n hn => by omega) (fun R qq => ⟨_, rfl, h, .int g.r, rfl, hg o0 rfl, _, rfl, by omega, by omega, qq _ _ (by omega) o0 (Tps.refl _)⟩) ?_ (fun j H1 l1 R o1 kk => ?_) fun rs rg H11 lrs hrs o t => ?_)
    · exact fun _ => rfl
    · exact draw1 (n := g.wd) o1 (fun _ q => ⟨_, rfl, _, rfl, h, .int g.wd, rfl, hg o1 rfl, q⟩) (by omega) fun v H2 o2 t2 v0 v1 => kk v H2 o2 t2 ⟨v0, by omega⟩
    clear t o0
    dsimp only [gName]
    refine st_any (draw1 (n := g.pl) o (fun _ q => ⟨_, rfl, _, rfl, h, .int g.pl, rfl, hg o rfl, q⟩) (by omega) fun pc H12 o t pc0 pc1 => ?_)
    clear t
    have pc2 : pc < g.pl := by omega
    dsimp only [gName]
    refine st_any fun mp hmp => ?_
    have o12 := o.add (u := .dK []) hmp
    dsimp only [tPairs, tC]
    refine ⟨by show 2 ≤ sizeLine; omega, fun t0 ht0 => ?_⟩
    have o13 := o12.add (u := .tup [.int 0, .str "x"]) ht0
    refine ⟨o13.at 1 rfl, [(Sum.inl 0, .ref t0)], rfl, by show 1 ≤ 15; omega, ?_⟩
    have o14 := o13.set (u' := .dK [(Sum.inl 0, .ref t0)]) 1 rfl
    have et0 : (upd (upd (upd H12 mp (.dK [])) t0 (.tup [.int 0, .str "x"])) mp (.dK [(Sum.inl 0, .ref t0)])) t0 = some (.tup [.int 0, .str "x"]) := o14.at 0 rfl
    replace o14 : Own s c H10 (upd (upd (upd H12 mp (.dK [])) t0 (.tup [.int 0, .str "x"])) mp (.dK [(Sum.inl 0, .ref t0)])) [(mp, .dK [(Sum.inl 0, .ref t0)]), (rg, .lst (rs.map V.int))] := o14.tail
    dsimp only [gName]
    show tSeq (tFor _ _ _) _ _ [some (.ref p), some (.ref s), some (.int (0 + (i : Int))), some (.ref h), some (.ref m), some (.ref N), some (.ref Dd), some (.ref F), some (.ref sp), some (.ref q), some (.ref rg), some (.int pc), some (.ref mp), v13, v14, v15, v16, v17, v18, v19, v20, none, none, none] (upd (upd (upd H12 mp (.dK [])) t0 (.tup [.int 0, .str "x"])) mp (.dK [(Sum.inl 0, .ref t0)]))
    generalize upd (upd (upd H12 mp (.dK [])) t0 (.tup [.int 0, .str "x"])) mp (.dK [(Sum.inl 0, .ref t0)]) = H13 at o14 et0 ⊢
    clear o12 o13 o hmp ht0
    refine ⟨_, rfl, h, .int g.pg, rfl, hg o14 rfl, 1, g.pg, rfl, ⟨by omega, by omega, by omega, by omega⟩, ?_⟩
    refine for_range (lo := 1) (n := _) (fun j σ H' => ∃ (v13 : Option V) (kvs : List (Key × V)) (mp1 : Int → Option (Int × Str)), σ = [some (.ref p), some (.ref s), some (.int (0 + (i : Int))), some (.ref h), some (.ref m), some (.ref N), some (.ref Dd), some (.ref F), some (.ref sp), some (.ref q), some (.ref rg), some (.int pc), some (.ref mp), v13, v14, v15, v16, v17, v18, v19, v20, none, none, none] ∧
      Own s c H10 H' [(mp, .dK kvs), (rg, .lst (rs.map V.int))] ∧ MapK H' kvs mp1 ∧ mp1 0 = some ((0 : Int), ("x" : Str)) ∧ (∀ n f r, mp1 n = some (f, r) → 0 ≤ f ∧ f < 5) ∧ kvs.length ≤ j + 1) ⟨_, [(Sum.inl 0, .ref t0)], fun n => if n = 0 then some (0, "x") else none, rfl, o14, fun n => ?_, if_pos rfl, fun n f r e => ?_, Nat.le_refl _⟩ ?_ ?_
    · by_cases hn : n = 0
      · subst hn
        exact ⟨t0, rfl, et0⟩
      · simp only [if_neg hn]
        exact valV_none fun p hp => by
          simp only [List.mem_cons, List.not_mem_nil, or_false] at hp
          subst hp
          intro z
          cases z
          exact hn rfl
    · try dsimp only at e
      split at e
      · cases e; omega
      · cases e
    · rintro j σ H14 hj ⟨v13, kvs, mp1, rfl, o, mk, mz, mb, lk2⟩
      dsimp only [gName, sDPut, tTup, tCons]
      refine ⟨_, rfl, _, _, rfl, s, c, 3, rfl, o.1, rfl, by omega, fun z H15 s15 m15 z0 z1 => ⟨_, _, rfl, rfl, ?_⟩⟩
      replace mk := mk.mono (o.tps m15)
      replace o := o.draw s15 m15
      refine draw_str o ["rw", "r", "rwx"] (fun _ q => q) rfl (fun _ _ q => ⟨_, rfl, q⟩) (by decide) (by decide) fun y H16 hy o t => ?_
      replace mk := mk.mono t
      refine ⟨by show 2 ≤ sizeLine; omega, fun t1 ht1 => ?_⟩
      have o17 := o.add (u := .tup [.int (1 + z), .str y]) ht1
      replace mk := mk.mono (Tps.new (o := .tup [.int (1 + z), .str y]) ht1)
      refine ⟨_, rfl, _, rfl, mp, _, rfl, DPut.k (k := Sum.inl (1 + (j : Int))) (o17.at 1 rfl) (by omega), ?_⟩
      have tp := o17.tset (u' := .dK (putK kvs (Sum.inl (1 + (j : Int))) (.ref t1))) 1 rfl fun _ z => by cases z
      refine ⟨_, _, _, rfl, (o17.set 1 rfl).tail, (mk.put (n := 1 + (j : Int)) (o17.at 0 rfl)).mono tp, ?_, fun n f r e => ?_, ?_⟩
      · show (if (0 : Int) = 1 + (j : Int) then _ else _) = _
        rw [if_neg (by omega)]
        exact mz
      · try dsimp only at e
        split at e
        · cases e
          omega
        · exact mb n f r e
      · have := length_putK kvs (Sum.inl (1 + (j : Int))) (.ref t1)
        omega
    rintro σ H14 ⟨v13, kvs, mp1, rfl, o, mk, mz, mb, lk2⟩
    clear o14 et0
    have mB : Same (Wo [s, c] H10) (Wo [mp] H14) := fun b u e => Wo.at (o.old (wo_not e) (Wo.to _ _ e)) fun z => by
      simp only [List.mem_cons, List.not_mem_nil, or_false] at z
      have h1 := (o.2.2.1 (mp, .dK kvs) (by simp)).2.2
      rw [z] at e
      rw [Wo.to _ _ e] at h1
      cases h1
    have hM := hM10.same mB
    replace wF := wF.same mB
    replace wS := mB _ _ wS
    replace wQ := wQ.same mB
    replace wD := mB _ _ wD
    have erg := o.at 1 rfl
    have emp := o.at 0 rfl
    have sW : Src s c (Wo [mp] H14) := by
      obtain ⟨n1, n2, n3, n4, x1, x2, x3⟩ := o.1
      have nm := (o.2.2.1 (mp, .dK kvs) (by simp)).2.1
      simp only [List.mem_cons, List.not_mem_nil, or_false, not_or] at nm
      exact ⟨n1, n2, n3, n4, Wo.at x1 (by simp only [List.mem_cons, List.not_mem_nil, or_false]; exact fun z => nm.1 z.symm), Wo.at x2 (by simp only [List.mem_cons, List.not_mem_nil, or_false]; exact fun z => nm.2 z.symm), x3⟩
    clear o mB hM10 X10 hg hh10 s10
    have okfr : OkFr g [r0, r1, r2', r3, cpw g db r0 st] := ⟨by simp, by show 5 ≤ 1000; omega, fr5⟩
    dsimp only
    refine ⟨_, rfl, _, rfl, _, rfl, _, rfl, fun y1 dy1 hy1 hdy1 nd1 => ?_⟩
    have k1 : Same (Wo [mp] H14) (Wo [y1] (upd (upd H14 dy1 (.own y1)) y1 (.ins (C_Box K) dy1 []))) := fun b u e => by
      have e := Wo.to _ _ e
      have n1 : b ≠ y1 := fun z => by rw [z, hy1] at e; cases e
      exact Wo.at ((upd_ne n1).trans ((upd_ne (fun z => by rw [z, hdy1] at e; cases e)).trans e)) (by simpa using n1)
    have k1' := k1.trans Wo.to
    refine ⟨_, _, _, _, _, rfl, y1, dy1, m, g, F, _, sp, f, q, ks, rfl, upd_same, rfl, hM.same k1, gok, rfl, wF.same k1', okfr, rfl, k1' _ _ wS, hf, fm, rfl, wQ.same k1', hk, by omega, fun H15 q1 b15 B1 => ⟨rfl, ?_⟩⟩
    have m15 : Same H14 H15 := Bt.made hy1 hdy1 b15
    replace B1 := B1.same (nw_made hy1 hdy1)
    clear k1 k1' b15
    refine ⟨_, rfl, _, rfl, _, rfl, _, rfl, fun y2 dy2 hy2 hdy2 nd2 => ?_⟩
    have k2 : Same (Wo [mp] H14) (Wo [y2] (upd (upd H15 dy2 (.own y2)) y2 (.ins (C_Box K) dy2 []))) := fun b u e => by
      have e := m15 _ _ (Wo.to _ _ e)
      have n1 : b ≠ y2 := fun z => by rw [z, hy2] at e; cases e
      exact Wo.at ((upd_ne n1).trans ((upd_ne (fun z => by rw [z, hdy2] at e; cases e)).trans e)) (by simpa using n1)
    have k2' := k2.trans Wo.to
    refine ⟨_, _, _, _, _, rfl, y2, dy2, m, g, F, _, sp, f, q, ks, rfl, upd_same, rfl, hM.same k2, gok, rfl, wF.same k2', okfr, rfl, k2' _ _ wS, hf, fm, rfl, wQ.same k2', hk, by omega, fun H16 q2' b16 B2 => ⟨rfl, ?_⟩⟩
    have m16 : Same H15 H16 := Bt.made hy2 hdy2 b16
    replace B2 := B2.same (nw_made hy2 hdy2)
    clear k2 k2' b16 nd1 nd2 hdy1 hdy2
    obtain ⟨_, eq1⟩ := B1.dct
    obtain ⟨_, eq2⟩ := B2.dct
    have zq1 := Nw.fresh eq1
    have zq2 := Nw.fresh eq2
    replace eq1 := Nw.to _ _ eq1
    replace eq2 := Nw.to _ _ eq2
    have ⟨dx1, F1, S1, O1, ei1⟩ := B1.ins
    have ⟨dx2, F2, S2, O2, ei2⟩ := B2.ins
    replace ei1 := Nw.to _ _ ei1
    replace ei2 := Nw.to _ _ ei2
    refine ⟨_, _, rfl, ?_⟩
    dsimp only
    refine st_any ⟨_, rfl, _, rfl, y2, q2', m, _, rfl, B2.same Nw.to, by show 5 ≤ 1000; omega, fun l0 H17 m17 P0 => ?_⟩
    dsimp only [gName]
    have m16' := m16.trans m17
    have m15' := m15.trans m16'
    have z15 : ∀ x, H15 x = none → H14 x = none := fun x e => Same.none m15 e
    have gS : ∀ x ∈ [y2, q2', mp], x ≠ y1 ∧ x ≠ q1 ∧ ∃ u, H17 x = some u ∧ ∀ xs, u ≠ .lst xs := fun x hx => by
      simp only [List.mem_cons, List.not_mem_nil, or_false] at hx
      rcases hx with rfl | rfl | rfl
      · exact ⟨fun z => (by rw [z, ei1] at hy2; cases hy2), fun z => (by rw [z, eq1] at hy2; cases hy2), _, m17 _ _ ei2, by simp⟩
      · exact ⟨fun z => (by rw [z, ei1] at zq2; cases zq2), fun z => (by rw [z, eq1] at zq2; cases zq2), _, m17 _ _ eq2, by simp⟩
      · exact ⟨fun z => (by rw [← z, emp] at hy1; cases hy1), fun z => (by rw [← z, emp] at zq1; cases zq1), _, m15' _ _ emp, by simp⟩
    have cok : Cv.ok ⟨g, [r0, r1, r2', r3, cpw g db r0 st], mp1, f, [], ks⟩ := ⟨gok, by show 5 ≤ 1000; omega, fun row hrow => (fr5 row hrow).1, fun n f r e => mb n f r e, by show 0 ≤ 1000; omega, by show ks.length ≤ 1000; omega⟩
    have w1 : ∀ x ∈ [y1, q1], H14 x = none := fun x hx => by
      simp only [List.mem_cons, List.not_mem_nil, or_false] at hx
      rcases hx with rfl | rfl
      · exact hy1
      · exact zq1
    have L1 : Same H14 (Wo [y1, q1] H17) := wo_none m15' w1
    have BS : BoxAt K (Wo [y2, q2', mp] H17) y1 q1 m ⟨[r0, r1, r2', r3, cpw g db r0 st], f, ks, []⟩ := B1.same fun x u e => Wo.at (m16' _ _ (Nw.to _ _ e)) fun z => by
      have n0 := Nw.fresh e
      have e := Nw.to _ _ e
      simp only [List.mem_cons, List.not_mem_nil, or_false] at z
      rcases z with rfl | rfl | rfl
      · rw [hy2] at e; cases e
      · rw [zq2] at e; cases e
      · rw [emp] at n0; cases n0
    refine st_any ⟨_, rfl, y1, dx1, _, rfl, m16' _ _ ei1, rfl, _, rfl, _, rfl, _, rfl, bare_use (E := C8.E0) (c := ⟨g, [r0, r1, r2', r3, cpw g db r0 st], mp1, f, [], ks⟩) ((B1.same Nw.to).same m16') (hM.same (Wo.to.trans L1)) ((mk.mono (.of L1)).at (L1 _ _ emp)) cok rfl rfl rfl rfl (m15' _ _ erg) (by omega) lrs [y2, q2', mp] gS BS fun early H18 E1 f18 g18 BX1 => ?_⟩
    obtain ⟨n, rfl⟩ := Int.eq_ofNat_of_zero_le pc0
    have zz : ∀ x ∈ [y1, q1, y2, q2'], H14 x = none := fun x hx => by
      simp only [List.mem_cons, List.not_mem_nil, or_false] at hx
      rcases hx with rfl | rfl | rfl | rfl
      · exact hy1
      · exact zq1
      · exact z15 _ hy2
      · exact z15 _ zq2
    have T17 : Same (Wo [mp] H14) (Wo [mp, y1, q1, y2, q2'] H17) := fun b u e => Wo.at (m15' _ _ (Wo.to _ _ e)) fun z => by
      rcases List.mem_cons.mp z with rfl | z
      · exact wo_not e (by simp)
      · have := zz b z
        rw [Wo.to _ _ e] at this
        cases this
    have U18 : Same (Wo [mp, y1, q1, y2, q2'] H17) (Wo [mp, y1, q1, y2, q2'] H18) := Wo.more f18 (by simp)
    have emp18 : H18 mp = some (.dK kvs) := Wo.to _ _ (f18 _ _ (L1 _ _ emp))
    have TL18 : TL H17 H18 := TL.wo f18 fun x hx => by
      simp only [List.mem_cons, List.not_mem_nil, or_false] at hx
      rcases hx with rfl | rfl
      · exact ⟨_, m16' _ _ ei1, by simp, by simp⟩
      · exact ⟨_, m16' _ _ eq1, by simp, by simp⟩
    dsimp only [gName]
    refine ⟨by show 2 ≤ sizeLine; omega, fun t4 ht4 => ?_⟩
    have m19 := Same.new (o := .tup [.int 4, .str "x"]) ht4
    have et4 : (upd H18 t4 (.tup [.int 4, .str "x"])) t4 = some (.tup [.int 4, .str "x"]) := upd_same
    refine ⟨_, rfl, mp, _, rfl, DPut.k (k := Sum.inl 0) (m19 _ _ emp18) (by omega), ?_⟩
    have TL20 : TL H18 (upd (upd H18 t4 (.tup [.int 4, .str "x"])) mp (.dK (putK kvs (Sum.inl 0) (.ref t4)))) := (TL.of m19).trans (TL.put (m19 _ _ emp18) (by simp) (by simp))
    have U20 : Same (Wo [mp, y1, q1, y2, q2'] H17) (Wo [mp, y1, q1, y2, q2'] (upd (upd H18 t4 (.tup [.int 4, .str "x"])) mp (.dK (putK kvs (Sum.inl 0) (.ref t4))))) := (U18.trans (Wo.mono m19)).trans (by rw [Wo.put (S := [mp, y1, q1, y2, q2']) (b := mp) (by simp)]; exact Same.refl _)
    have T20 := T17.trans U20
    have BX2 := BX1.same ((Wo.mono m19).trans (show Same (Wo [y2, q2', mp] (upd H18 t4 (.tup [.int 4, .str "x"]))) (Wo [y2, q2', mp] (upd (upd H18 t4 (.tup [.int 4, .str "x"])) mp (.dK (putK kvs (Sum.inl 0) (.ref t4))))) by rw [Wo.put (S := [y2, q2', mp]) (b := mp) (by simp)]; exact Same.refl _))
    have K20 : Same (Nw H15 H17) (upd (upd H18 t4 (.tup [.int 4, .str "x"])) mp (.dK (putK kvs (Sum.inl 0) (.ref t4)))) := fun x u e => by
      have n0 := Nw.fresh e
      have e18 := Wo.to _ _ (f18 _ _ (Wo.at (Nw.to _ _ e) fun z => by
        simp only [List.mem_cons, List.not_mem_nil, or_false] at z
        rcases z with rfl | rfl
        · rw [ei1] at n0; cases n0
        · rw [eq1] at n0; cases n0))
      exact (upd_ne fun z => by rw [z, m15 _ _ emp] at n0; cases n0).trans (m19 _ _ e18)
    have mk2 := ((((mk.mono (.of m15')).mono TL18.tps).mono (.of m19)).put (n := 0) et4).mono (TL.tps (TL.put (o := .dK (putK kvs (Sum.inl 0) (.ref t4))) (m19 _ _ emp18) (by simp) (by simp)))
    have emp20 : (upd (upd H18 t4 (.tup [.int 4, .str "x"])) mp (.dK (putK kvs (Sum.inl 0) (.ref t4)))) mp = some (.dK (putK kvs (Sum.inl 0) (.ref t4))) := upd_same
    have E2 := E1.mono TL20
    dsimp only
    generalize upd (upd H18 t4 (.tup [.int 4, .str "x"])) mp (.dK (putK kvs (Sum.inl 0) (.ref t4))) = H20 at TL20 U20 T20 BX2 K20 mk2 emp20 E2 ⊢
    have B2' := (B2.same (Nw.mono m17)).same K20
    have ⟨_, _, _, _, ei20⟩ := B2'.ins
    have ⟨_, eq20⟩ := B2'.dct
    have nmp : mp ∉ [y2, q2'] := fun z => by
      have := zz mp (by simp only [List.mem_cons, List.not_mem_nil, or_false] at z ⊢; rcases z with z | z <;> simp [z])
      rw [emp] at this
      cases this
    have hmp2 := MapK.at (mk2.mono (Wo.tpT (S := [y2, q2']) fun x hx => by
      simp only [List.mem_cons, List.not_mem_nil, or_false] at hx
      rcases hx with rfl | rfl
      · exact ⟨_, ei20, by simp⟩
      · exact ⟨_, eq20, by simp⟩)) (Wo.at emp20 nmp)
    have cok2 : Cv.ok ⟨g, [r0, r1, r2', r3, cpw g db r0 st], fun j => if j = 0 then some (4, "x") else mp1 j, f, [], ks⟩ := ⟨gok, by show 5 ≤ 1000; omega, fun row hrow => (fr5 row hrow).1, fun n f r e => by
      dsimp only at e
      split at e
      · cases e
        exact ⟨by omega, by show (4 : Int) < 5; omega⟩
      · exact mb n f r e, by show 0 ≤ 1000; omega, by show ks.length ≤ 1000; omega⟩
    have erg20 := Wo.to _ _ (T20 _ _ (Wo.at erg (by simp only [List.mem_cons, List.not_mem_nil, or_false]; exact fun z => by rw [z, emp] at erg; cases erg)))
    dsimp only [tSeq, tAsg]
    refine ⟨_, rfl, y2, _, _, rfl, ei20, rfl, _, rfl, _, rfl, _, rfl, bare_use (E := C8.E0) (c := ⟨g, [r0, r1, r2', r3, cpw g db r0 st], fun j => if j = 0 then some (4, "x") else mp1 j, f, [], ks⟩) (bx := ⟨[r0, r1, r2', r3, cpw g db r0 st], f, ks, []⟩) B2' (hM.same (T20.trans (Wo.sub (by simp)))) hmp2 cok2 rfl rfl rfl rfl erg20 (by omega) lrs [] (by simp) (B2'.same (wo_none (Same.refl _) (by simp))) fun late H21 E3 f21 g21 BY1 => ?_⟩
    have hn : n < r0.length := by have := hr0.1; omega
    have U21 := U20.trans (Wo.more f21 (S' := [mp, y1, q1, y2, q2']) (by simp))
    have T21 := T17.trans U21
    have TL21 : TL H20 H21 := TL.wo f21 fun x hx => by
      simp only [List.mem_cons, List.not_mem_nil, or_false] at hx
      rcases hx with rfl | rfl
      · exact ⟨_, ei20, by simp, by simp⟩
      · exact ⟨_, eq20, by simp, by simp⟩
    have E2' := E2.mono TL21
    have BX3 := (BX2.same (Wo.more f21 (S' := [y2, q2', mp]) (by simp))).same Wo.to
    replace BY1 := BY1.same Wo.to
    have P21 : PartsAt H21 l0 ⟨[r0, r1, r2', r3, cpw g db r0 st], f, ks, []⟩ := P0.same fun x u e => Wo.to _ _ (U21 _ _ (Wo.at (Nw.to _ _ e) fun z => by
      have n0 := Nw.fresh e
      simp only [List.mem_cons, List.not_mem_nil, or_false] at z
      rcases z with rfl | rfl | rfl | rfl | rfl
      · rw [m16 _ _ (m15 _ _ emp)] at n0; cases n0
      · rw [m16 _ _ ei1] at n0; cases n0
      · rw [m16 _ _ eq1] at n0; cases n0
      · rw [ei2] at n0; cases n0
      · rw [eq2] at n0; cases n0))
    have hM21 := (hM.same T21).same Wo.to
    have wF21 := (wF.same T21).same Wo.to
    have wD21 := Wo.to _ _ (T21 _ _ wD)
    have s21 := (sW.same T21).same Wo.to
    have hpl := plain_stop (c := ⟨g, [r0, r1, r2', r3, cpw g db r0 st], mp1, f, [], ks⟩) (db := db) (st := st) (rs := rs) rfl hst hn pc2
    have hps := plain_same (c := ⟨g, [r0, r1, r2', r3, cpw g db r0 st], mp1, f, [], ks⟩) (db := db) (st := st) (rs := rs) rfl mz hn pc2
    have hend : ∀ d, bareM ⟨g, [r0, r1, r2', r3, cpw g db r0 st], mp1, f, [], ks⟩ rs n = .inl d → endOk d := fun d e => bare_endOk gok.gi e
    have hlen : (endBx ⟨[r0, r1, r2', r3, cpw g db r0 st], f, ks, []⟩ (bareM ⟨g, [r0, r1, r2', r3, cpw g db r0 st], mp1, f, [], ks⟩ rs n)).fr.length ≤ 1000 := by
      cases hb : bareM ⟨g, [r0, r1, r2', r3, cpw g db r0 st], mp1, f, [], ks⟩ rs n with
      | inl d => show 5 ≤ 1000; omega
      | inr z =>
        obtain ⟨a, b, e⟩ := z
        have := bare_len hb
        show e.fr.length ≤ 1000
        rw [this]
        show 5 ≤ 1000
        omega
    clear E1 E2 BX1 BX2 f18 g18 U18 U20 U21 T20 T21 T17 TL18 TL20 TL21 K20 mk2 emp20 hmp2 cok2 erg20 ei20 eq20 f21 nmp et4 m19 ht4 emp18 zz BS L1 w1 cok gS z15 m15' m16' P0 ei1 ei2 eq1 eq2 zq1 zq2 m15 m16 m17 B1 B2 B2' hM wF wD sW mk
    generalize hr1 : bareM ⟨g, [r0, r1, r2', r3, cpw g db r0 st], mp1, f, [], ks⟩ rs n = R1 at E2' BX3 hps hend hlen
    generalize hr2 : bareM ⟨g, [r0, r1, r2', r3, cpw g db r0 st], fun j => if j = 0 then some (4, "x") else mp1 j, f, [], ks⟩ rs n = R2 at E3 BY1 g21 hpl hps
    obtain ⟨as, eF21, pF⟩ := wF21
    cases pF with
    | @cons b0 _ as _ t0 pF =>
    clear pF
    have t0 : H21 b0 = some (.lst (r0.map V.int)) := t0
    refine ⟨_, rfl, F, _, 0, .ref b0, rfl, rfl, .inl (.inl eF21), atI_nat (j := 0) rfl, _, rfl, b0, _, n, .int r0[n], rfl, rfl, .inl (.inl t0), atI_nat (by rw [List.getElem?_map, List.getElem?_eq_getElem hn]; rfl), ?_⟩
    refine ⟨_, rfl, _, rfl, _, rfl, F, _, 0, .ref b0, rfl, rfl, .inl (.inl eF21), atI_nat (j := 0) rfl, _, _, _, rfl, m, g, Dd, db, b0, r0, rfl, hM21, gok, rfl, wD21, rfl, t0, by have := hr0.1; omega, fun l3 H22 m22 e22 => ?_⟩
    dsimp only [gName]
    show tIfS _ _ _ _ [some (.ref p), some (.ref s), some (.int (0 + (i : Int))), some (.ref h), some (.ref m), some (.ref N), some (.ref Dd), some (.ref F), some (.ref sp), some (.ref q), some (.ref rg), some (.int n), some (.ref mp), v13, some (.ref y1), some (.ref y2), some (.ref l0), some early, some late, some (.int r0[n]), some (.ref l3), none, none, none] H22
    refine ⟨_, rfl, _, rfl, l3, _, rfl, .inl (.inl (.inl e22)), rfl, flat_ints, ?_⟩
    show ∃ k, V.bl (inV (.int n) ((dbt g db r0).map V.int)) = .bl k ∧ _
    rw [inV_ints]
    refine ⟨_, rfl, ite2 (fun hd => ?_) fun hd => ?_⟩
    · have hd : ((n : Nat) : Int) ∈ dbt g db r0 := by simpa using hd
      refine iteT ?_
      have hA : ((n : Nat) : Int) ∈ dbt g db r0 ∨ r0[n] ∈ stops g := .inl hd
      obtain ⟨nm, ds, eR, hnm⟩ := hpl hA
      rw [eR] at E3 BY1
      obtain ⟨t, us, rfl, ht, ts⟩ := TD'.tup E3
      obtain ⟨us', rfl⟩ : ∃ us', us = .str nm :: us' := by
        cases ts with
        | cons t1 ts => cases t1; exact ⟨_, rfl⟩
      refine ⟨_, rfl, t, _, 0, .str nm, rfl, rfl, .inl (.inl (m22 _ _ ht)), atI_nat (j := 0) rfl, by show 2 ≤ sizeLine; omega, fun L2 hL2 => ⟨L2, _, rfl, .inl (.inl (.inl upd_same)), rfl, rfl, _, rfl, iN ?_ ?_⟩⟩
      · have e : inV (.str nm) ((["code", "trap"] : List Str).map V.str) = true := by
          rw [inV_strs]
          rcases hnm with rfl | rfl <;> decide +kernel
        show (!inV (.str nm) ((["code", "trap"] : List Str).map V.str)) = false
        rw [e]
        rfl
      have mL2 := m22.trans (Same.new (o := .lst [.str "code", .str "trap"]) hL2)
      refine ⟨_, rfl, _, rfl, y2, q2', m, _, rfl, BY1.same mL2, by show 5 ≤ 1000; omega, fun l5 H5 m5 P5 => ⟨_, rfl, parts_ne (P5.same Nw.to) ((P21.same mL2).same m5) ⟨_, rfl, iteF ?_⟩⟩⟩
      exact ⟨_, _, _, _, _, _, _, _, _, _, _, _, _, _, _, _, _, _, _, rfl, s21.same (mL2.trans m5)⟩
    · have hd : ((n : Nat) : Int) ∉ dbt g db r0 := by simpa using hd
      refine ⟨_, rfl, _, rfl, _, rfl, m, g, rfl, hM21.same m22, gok, fun l4 H23 m23' e23 => ?_⟩
      have m23 := m22.trans m23'
      refine ⟨l4, _, rfl, .inl (.inl (.inl e23)), rfl, flat_ints, ?_⟩
      show ∃ k, V.bl (inV (.int r0[n]) ((stops g).map V.int)) = .bl k ∧ _
      rw [inV_ints]
      refine ⟨_, rfl, ite2 (fun hw => ?_) fun hw => ?_⟩
      · have hw : r0[n] ∈ stops g := by simpa using hw
        have hA : ((n : Nat) : Int) ∈ dbt g db r0 ∨ r0[n] ∈ stops g := .inr hw
        obtain ⟨nm, ds, eR, hnm⟩ := hpl hA
        rw [eR] at E3 BY1
        obtain ⟨t, us, rfl, ht, ts⟩ := TD'.tup E3
        obtain ⟨us', rfl⟩ : ∃ us', us = .str nm :: us' := by
          cases ts with
          | cons t1 ts => cases t1; exact ⟨_, rfl⟩
        refine ⟨_, rfl, t, _, 0, .str nm, rfl, rfl, .inl (.inl (m23 _ _ ht)), atI_nat (j := 0) rfl, by show 2 ≤ sizeLine; omega, fun L2 hL2 => ⟨L2, _, rfl, .inl (.inl (.inl upd_same)), rfl, rfl, _, rfl, iN ?_ ?_⟩⟩
        · have e : inV (.str nm) ((["code", "trap"] : List Str).map V.str) = true := by
            rw [inV_strs]
            rcases hnm with rfl | rfl <;> decide +kernel
          show (!inV (.str nm) ((["code", "trap"] : List Str).map V.str)) = false
          rw [e]
          rfl
        have mL2 := m23.trans (Same.new (o := .lst [.str "code", .str "trap"]) hL2)
        refine ⟨_, rfl, _, rfl, y2, q2', m, _, rfl, BY1.same mL2, by show 5 ≤ 1000; omega, fun l5 H5 m5 P5 => ⟨_, rfl, parts_ne (P5.same Nw.to) ((P21.same mL2).same m5) ⟨_, rfl, iteF ?_⟩⟩⟩
        exact ⟨_, _, _, _, _, _, _, _, _, _, _, _, _, _, _, _, _, _, _, rfl, s21.same (mL2.trans m5)⟩
      · clear hw
        have eR : R2 = R1 := hps hd
        subst eR
        have d1 := (E3.mono (TL.of m23)).dp (K := K)
        have d2 := (E2'.mono (TL.of m23)).dp (K := K)
        have sh := pyR_shaped hend
        refine ⟨_, rfl, _, rfl, _, _, d1, d2, sh, sh, _, rfl, iN ?_ ?_⟩
        · rw [SeqAt.eqv_refl _ (SeqAt.canLay_of_shaped sh)]
          rfl
        refine ⟨_, rfl, _, rfl, y1, q1, m, _, rfl, BX3.same m23, hlen, fun l5 H5 m5 P5 => ⟨_, rfl, _, rfl, y2, q2', m, _, rfl, BY1.same (m23.trans m5), hlen, fun l6 H6 m6 P6 => parts_ne ((P5.same Nw.to).same m6) (P6.same Nw.to) ⟨_, rfl, iteF ?_⟩⟩⟩
        exact ⟨_, _, _, _, _, _, _, _, _, _, _, _, _, _, _, _, _, _, _, rfl, s21.same ((m23.trans m5).trans m6)⟩
  · rintro σ H2 ⟨v2, v3, v4, v5, v6, v7, v8, v9, v10, v11, v12, v13, v14, v15, v16, v17, v18, v19, v20, rfl, hs⟩
    exact k _
theorem law_fn (T : Tz P w K mg) {f : Addr} {fd : FuncData} (F : FunD K "law" "law" (defArgs s_law) (defBody s_law) (defScope s_law) [] [] f fd) : FnOk P w K mg base C8.CX0 17 f fd ["_law_script"] (sp_law K) :=
  F.ok sc_law len1 fun cdv A outer s H vs Q E hr h => by
    obtain ⟨t, ht, h2⟩ := law_body T f cdv A outer s H vs Q E hr h
    exact ⟨t, ht.nox, h2⟩
end
end W73
set_option Elab.async false
set_option linter.all false
set_option maxRecDepth 100000
set_option maxHeartbeats 0
open PySem PySem.W PySem.Calls PyProof.Rows
theorem PySem.Challenge.cw_worldsalone_k73_whole_bare_steps_on_copi_holds : PySem.Challenge.rw_worldsalone_k73_whole_bare_steps_on_copi.Holds := by
  w_on; o_law
  refine HandSHeadRun.head_any (r := W73.RR) (q := W73.vw) (H := W73.hkX) (ob := W73.obX) (M := 9000) (loose := W73.names) (d := HandSHeadRun.topDef W73.RR.prog 79) (kwd := []) W73.obX_eq
    (by kernel_rfl) (fun s => by kernel_rfl) W73.ran (by kernel_rfl) (by kernel_rfl) (by kernel_rfl) (by rfl) (by first | assumption | decide +kernel) (by decide +kernel) ⟨rfl, rfl, rfl, rfl, rfl, by decide +kernel⟩ ?hw ?hc
  case hw => w_witness2
  case hc =>
    refine L2.walk_ofE (l := PySem.Challenge.rw_worldsalone_k73_whole_bare_steps_on_copi) (n := 63) (k := 17) (x := "_law_script") (CX := C8.CX0) rfl (by decide) (by kernel_rfl) ⟨rfl, by decide, by decide⟩ ?F (fun _ _ _ _ z => z)
    intro w mg fa h Y G hmg0
    obtain ⟨K, KX, c⟩ := Y
    have hmg : mg ("law" : PySem.Str) = some (.ref fa) := by
      have e : (HandSHeadRun.topDef W73.RR.prog 79).name = ("law" : PySem.Str) := by kernel_rfl
      rw [← e]
      exact hmg0
    have T : W73.Tz PySem.Challenge.rw_worldsalone_k73_whole_bare_steps_on_copi.prog w K mg := W73.tz_of (by kernel_rfl) KX G c
    obtain ⟨f, fd, F, hm⟩ := T.toTx.f_law.ex
    have e := hmg.symm.trans hm
    cases e
    have b := L2.FunD.bindsA (ps := ["_law_script"]) F fun _ _ _ _ _ _ us hl => match us, hl with | [_], _ => rfl
    exact ⟨K, fd, W73.sp_law K, KX, fun s v => b s [v] rfl, fun H a ns hl _ hS => ⟨_, rfl, a, ns, rfl, hS, by omega, fun _ => rfl⟩, fun base _ _ => W73.law_fn T F⟩
