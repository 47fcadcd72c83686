import PyProof.Rows.All
import Wide.All
import OpenK.AllK
import Wide.FinOn
import HandS.ForMost
import HandS.More
import HandS.Codes
import HandS.IsInst
import HandS.TupAny
import HandS.CallLocal
import HandS.Style
import HandS.TupLe
import HandS.Conv
import HandS.Wide
import HandS.Defaults
import HandS.WordsExc
import HandS.HeadHook1
import HandS.HeadHook2
import HandS.HeadHook3
import HandS.HeadHook4
import PySem.Challenge.RW_knotspools_k71_whole_same_by_steps
import PyProof.ListStr
import PyProof.ReprRoads
import KE.KRevSl
import KE.OsScanText
import HandS.HeadEnd
import KE.KStateDown
import HandS.Head0
import HandS.Head1
import HandS.Head2
set_option Elab.async false
set_option linter.all false
set_option maxRecDepth 100000
set_option maxHeartbeats 4000000
/-! The text by places, and what is told of the module behind its top. -/
namespace Kn
open PySem PySem.Spec PyProof.Rows L2
def top (i : Nat) : Stmt := PySem.Challenge.pw_knotspools_k71_whole_same_by_steps.main.body.getD i (.Pass ⟨0, 0, 0, 0⟩)
abbrev s_is_integer : Stmt := top 8
abbrev s_is_between : Stmt := top 9
abbrev s_is_word : Stmt := top 11
abbrev s_do_undo : Stmt := top 13
abbrev s_undone_word : Stmt := top 14
abbrev s_is_plain : Stmt := top 19
abbrev s_is_step : Stmt := top 20
abbrev s_left_out : Stmt := top 21
abbrev s_turned : Stmt := top 22
abbrev s_joined : Stmt := top 23
abbrev s_parted : Stmt := top 24
abbrev s_cut_at : Stmt := top 25
abbrev s_glued : Stmt := top 26
abbrev s_unpaired : Stmt := top 27
abbrev s_passed : Stmt := top 28
abbrev s_opened : Stmt := top 29
abbrev s_rooted : Stmt := top 30
abbrev s_replaced : Stmt := top 31
abbrev s_done : Stmt := top 32
abbrev s_all_done : Stmt := top 33
abbrev s_is_block : Stmt := top 40
abbrev s_are_blocks : Stmt := top 41
abbrev s_undone_row : Stmt := top 51
abbrev s_lead_to_nothing : Stmt := top 53
abbrev s_shows_same : Stmt := top 60
abbrev s_accepts : Stmt := top 64
abbrev s_law_bag : Stmt := top 66
abbrev s_law_take : Stmt := top 67
abbrev s_law_of : Stmt := top 68
abbrev s_law_back_word : Stmt := top 69
abbrev s_law_lasting : Stmt := top 70
abbrev s_law_part : Stmt := top 71
abbrev s_law_undoing : Stmt := top 72
abbrev s_law_nested : Stmt := top 73
abbrev s_law_meet : Stmt := top 74
abbrev s_law_in_place : Stmt := top 75
abbrev s_law_in_word : Stmt := top 76
abbrev s_law_stepped : Stmt := top 77
abbrev s_law_behind : Stmt := top 78
abbrev s_law_short_word : Stmt := top 79
abbrev s_law_melt : Stmt := top 80
abbrev s_law_paper : Stmt := top 81
abbrev s_law_moved : Stmt := top 82
abbrev s_law_papers : Stmt := top 83
abbrev s_law_bent : Stmt := top 84
abbrev s_law_cleared : Stmt := top 85
abbrev s_law_faced : Stmt := top 86
abbrev s_law_letter_steps : Stmt := top 87
abbrev s_law_asked_right : Stmt := top 88
abbrev s_law_moved_block : Stmt := top 89
abbrev s_law_by_letters : Stmt := top 90
abbrev s_law_right : Stmt := top 91
abbrev s_law : Stmt := top 92
def d_is_integer : He.DefD := ⟨("is_integer", none), "is_integer", "is_integer", defArgs s_is_integer, defBody s_is_integer, defScope s_is_integer, [], []⟩
def d_is_between : He.DefD := ⟨("is_between", none), "is_between", "is_between", defArgs s_is_between, defBody s_is_between, defScope s_is_between, [], []⟩
def d_is_word : He.DefD := ⟨("is_word", none), "is_word", "is_word", defArgs s_is_word, defBody s_is_word, defScope s_is_word, [], []⟩
def d_do_undo : He.DefD := ⟨("do_undo", none), "do_undo", "do_undo", defArgs s_do_undo, defBody s_do_undo, defScope s_do_undo, [], []⟩
def d_undone_word : He.DefD := ⟨("undone_word", none), "undone_word", "undone_word", defArgs s_undone_word, defBody s_undone_word, defScope s_undone_word, [], []⟩
def d_is_plain : He.DefD := ⟨("is_plain", none), "is_plain", "is_plain", defArgs s_is_plain, defBody s_is_plain, defScope s_is_plain, [], []⟩
def d_is_step : He.DefD := ⟨("is_step", none), "is_step", "is_step", defArgs s_is_step, defBody s_is_step, defScope s_is_step, [], []⟩
def d_left_out : He.DefD := ⟨("left_out", none), "left_out", "left_out", defArgs s_left_out, defBody s_left_out, defScope s_left_out, [], []⟩
def d_turned : He.DefD := ⟨("turned", none), "turned", "turned", defArgs s_turned, defBody s_turned, defScope s_turned, [], []⟩
def d_joined : He.DefD := ⟨("joined", none), "joined", "joined", defArgs s_joined, defBody s_joined, defScope s_joined, [], []⟩
def d_parted : He.DefD := ⟨("parted", none), "parted", "parted", defArgs s_parted, defBody s_parted, defScope s_parted, [], []⟩
def d_cut_at : He.DefD := ⟨("cut_at", none), "cut_at", "cut_at", defArgs s_cut_at, defBody s_cut_at, defScope s_cut_at, [], []⟩
def d_glued : He.DefD := ⟨("glued", none), "glued", "glued", defArgs s_glued, defBody s_glued, defScope s_glued, [], []⟩
def d_unpaired : He.DefD := ⟨("unpaired", none), "unpaired", "unpaired", defArgs s_unpaired, defBody s_unpaired, defScope s_unpaired, [], []⟩
def d_passed : He.DefD := ⟨("passed", none), "passed", "passed", defArgs s_passed, defBody s_passed, defScope s_passed, [], []⟩
def d_opened : He.DefD := ⟨("opened", none), "opened", "opened", defArgs s_opened, defBody s_opened, defScope s_opened, [], []⟩
def d_rooted : He.DefD := ⟨("rooted", none), "rooted", "rooted", defArgs s_rooted, defBody s_rooted, defScope s_rooted, [], []⟩
def d_replaced : He.DefD := ⟨("replaced", none), "replaced", "replaced", defArgs s_replaced, defBody s_replaced, defScope s_replaced, [], []⟩
def d_done : He.DefD := ⟨("done", none), "done", "done", defArgs s_done, defBody s_done, defScope s_done, [], []⟩
def d_all_done : He.DefD := ⟨("all_done", none), "all_done", "all_done", defArgs s_all_done, defBody s_all_done, defScope s_all_done, [], []⟩
def d_is_block : He.DefD := ⟨("is_block", none), "is_block", "is_block", defArgs s_is_block, defBody s_is_block, defScope s_is_block, [], []⟩
def d_are_blocks : He.DefD := ⟨("are_blocks", none), "are_blocks", "are_blocks", defArgs s_are_blocks, defBody s_are_blocks, defScope s_are_blocks, [], []⟩
def d_undone_row : He.DefD := ⟨("undone_row", none), "undone_row", "undone_row", defArgs s_undone_row, defBody s_undone_row, defScope s_undone_row, [], []⟩
def d_lead_to_nothing : He.DefD := ⟨("lead_to_nothing", none), "lead_to_nothing", "lead_to_nothing", defArgs s_lead_to_nothing, defBody s_lead_to_nothing, defScope s_lead_to_nothing, [], []⟩
def d_shows_same : He.DefD := ⟨("shows_same", none), "shows_same", "shows_same", defArgs s_shows_same, defBody s_shows_same, defScope s_shows_same, [], []⟩
def d_accepts : He.DefD := ⟨("accepts", none), "accepts", "accepts", defArgs s_accepts, defBody s_accepts, defScope s_accepts, [], []⟩
def d_law_bag : He.DefD := ⟨("_law_bag", none), "_law_bag", "_law_bag", defArgs s_law_bag, defBody s_law_bag, defScope s_law_bag, [], []⟩
def d_law_take : He.DefD := ⟨("_law_take", none), "_law_take", "_law_take", defArgs s_law_take, defBody s_law_take, defScope s_law_take, [], []⟩
def d_law_of : He.DefD := ⟨("_law_of", none), "_law_of", "_law_of", defArgs s_law_of, defBody s_law_of, defScope s_law_of, [], []⟩
def d_law_back_word : He.DefD := ⟨("_law_back_word", none), "_law_back_word", "_law_back_word", defArgs s_law_back_word, defBody s_law_back_word, defScope s_law_back_word, [], []⟩
def d_law_lasting : He.DefD := ⟨("_law_lasting", none), "_law_lasting", "_law_lasting", defArgs s_law_lasting, defBody s_law_lasting, defScope s_law_lasting, [], []⟩
def d_law_part : He.DefD := ⟨("_law_part", none), "_law_part", "_law_part", defArgs s_law_part, defBody s_law_part, defScope s_law_part, [], []⟩
def d_law_undoing : He.DefD := ⟨("_law_undoing", none), "_law_undoing", "_law_undoing", defArgs s_law_undoing, defBody s_law_undoing, defScope s_law_undoing, [], []⟩
def d_law_nested : He.DefD := ⟨("_law_nested", none), "_law_nested", "_law_nested", defArgs s_law_nested, defBody s_law_nested, defScope s_law_nested, [], []⟩
def d_law_meet : He.DefD := ⟨("_law_meet", none), "_law_meet", "_law_meet", defArgs s_law_meet, defBody s_law_meet, defScope s_law_meet, [], []⟩
def d_law_in_place : He.DefD := ⟨("_law_in_place", none), "_law_in_place", "_law_in_place", defArgs s_law_in_place, defBody s_law_in_place, defScope s_law_in_place, [], []⟩
def d_law_in_word : He.DefD := ⟨("_law_in_word", none), "_law_in_word", "_law_in_word", defArgs s_law_in_word, defBody s_law_in_word, defScope s_law_in_word, [], []⟩
def d_law_stepped : He.DefD := ⟨("_law_stepped", none), "_law_stepped", "_law_stepped", defArgs s_law_stepped, defBody s_law_stepped, defScope s_law_stepped, [], []⟩
def d_law_behind : He.DefD := ⟨("_law_behind", none), "_law_behind", "_law_behind", defArgs s_law_behind, defBody s_law_behind, defScope s_law_behind, [], []⟩
def d_law_short_word : He.DefD := ⟨("_law_short_word", none), "_law_short_word", "_law_short_word", defArgs s_law_short_word, defBody s_law_short_word, defScope s_law_short_word, [], []⟩
def d_law_melt : He.DefD := ⟨("_law_melt", none), "_law_melt", "_law_melt", defArgs s_law_melt, defBody s_law_melt, defScope s_law_melt, [], []⟩
def d_law_paper : He.DefD := ⟨("_law_paper", none), "_law_paper", "_law_paper", defArgs s_law_paper, defBody s_law_paper, defScope s_law_paper, [], []⟩
def d_law_moved : He.DefD := ⟨("_law_moved", none), "_law_moved", "_law_moved", defArgs s_law_moved, defBody s_law_moved, defScope s_law_moved, [], []⟩
def d_law_papers : He.DefD := ⟨("_law_papers", none), "_law_papers", "_law_papers", defArgs s_law_papers, defBody s_law_papers, defScope s_law_papers, [], []⟩
def d_law_bent : He.DefD := ⟨("_law_bent", none), "_law_bent", "_law_bent", defArgs s_law_bent, defBody s_law_bent, defScope s_law_bent, [], []⟩
def d_law_cleared : He.DefD := ⟨("_law_cleared", none), "_law_cleared", "_law_cleared", defArgs s_law_cleared, defBody s_law_cleared, defScope s_law_cleared, [], []⟩
def d_law_faced : He.DefD := ⟨("_law_faced", none), "_law_faced", "_law_faced", defArgs s_law_faced, defBody s_law_faced, defScope s_law_faced, [], []⟩
def d_law_letter_steps : He.DefD := ⟨("_law_letter_steps", none), "_law_letter_steps", "_law_letter_steps", defArgs s_law_letter_steps, defBody s_law_letter_steps, defScope s_law_letter_steps, [], []⟩
def d_law_asked_right : He.DefD := ⟨("_law_asked_right", none), "_law_asked_right", "_law_asked_right", defArgs s_law_asked_right, defBody s_law_asked_right, defScope s_law_asked_right, [], []⟩
def d_law_moved_block : He.DefD := ⟨("_law_moved_block", none), "_law_moved_block", "_law_moved_block", defArgs s_law_moved_block, defBody s_law_moved_block, defScope s_law_moved_block, [], []⟩
def d_law_by_letters : He.DefD := ⟨("_law_by_letters", none), "_law_by_letters", "_law_by_letters", defArgs s_law_by_letters, defBody s_law_by_letters, defScope s_law_by_letters, [], []⟩
def d_law_right : He.DefD := ⟨("_law_right", none), "_law_right", "_law_right", defArgs s_law_right, defBody s_law_right, defScope s_law_right, [], []⟩
def d_law : He.DefD := ⟨("law", none), "law", "law", defArgs s_law, defBody s_law, defScope s_law, [], []⟩
def fn : List He.DefD := [d_is_integer, d_is_between, d_is_word, d_do_undo, d_undone_word, d_is_plain, d_is_step, d_left_out, d_turned, d_joined, d_parted, d_cut_at, d_glued, d_unpaired, d_passed, d_opened, d_rooted, d_replaced, d_done, d_all_done, d_is_block, d_are_blocks, d_undone_row, d_lead_to_nothing, d_shows_same, d_accepts, d_law_bag, d_law_take, d_law_of, d_law_back_word, d_law_lasting, d_law_part, d_law_undoing, d_law_nested, d_law_meet, d_law_in_place, d_law_in_word, d_law_stepped, d_law_behind, d_law_short_word, d_law_melt, d_law_paper, d_law_moved, d_law_papers, d_law_bent, d_law_cleared, d_law_faced, d_law_letter_steps, d_law_asked_right, d_law_moved_block, d_law_by_letters, d_law_right, d_law]
def fa1 : List He.Fa := [.glo "is_integer", .glo "is_between", .glo "is_word", .glo "do_undo", .glo "undone_word", .glo "is_plain", .glo "is_step", .glo "left_out", .glo "turned", .glo "joined", .glo "parted", .glo "cut_at", .glo "glued", .glo "unpaired", .glo "passed", .glo "opened", .glo "rooted", .glo "replaced", .glo "done", .glo "all_done", .glo "is_block", .glo "are_blocks", .glo "undone_row", .glo "lead_to_nothing", .glo "shows_same", .glo "accepts", .glo "_law_bag", .glo "_law_take", .glo "_law_of", .glo "_law_back_word", .glo "_law_lasting", .glo "_law_part", .glo "_law_undoing", .glo "_law_nested", .glo "_law_meet", .glo "_law_in_place", .glo "_law_in_word", .glo "_law_stepped", .glo "_law_behind", .glo "_law_short_word"]
def fa2 : List He.Fa := [.glo "_law_melt", .glo "_law_paper", .glo "_law_moved", .glo "_law_papers", .glo "_law_bent", .glo "_law_cleared", .glo "_law_faced", .glo "_law_letter_steps", .glo "_law_asked_right", .glo "_law_moved_block", .glo "_law_by_letters", .glo "_law_right", .glo "law", .free "isinstance", .free "int", .free "bool", .free "str", .free "tuple", .free "list", .free "len", .free "all", .free "range", .free "max", .free "min", .free "abs", .free "divmod", .free "repr", .int "MOST_BLOCKS" 12, .int "MOST_WORD" 12, .int "MOST_TIMES" 9, .int "MOST_MORE" 99, .int "ITEMS" 3, .str "LETTERS" "abcdefABCDEF", .glo "SIZES", .glo "PAIRS", .glo "JUDGES"]
def fa : List He.Fa := fa1 ++ fa2
def ts : List He.Tab := [(fun K => He.ga K "SIZES", ["out", "turn", "join", "split", "cut", "glue", "undo", "back", "open", "root"]), (fun K => He.ga K "JUDGES", ["free", "free at", "held at", "held", "length", "same", "lots"])]
def szs : List (Str × He.Dv) := [("out", .int 2), ("turn", .int 2), ("join", .int 2), ("split", .int 4), ("cut", .int 3), ("glue", .int 2), ("undo", .int 3), ("back", .int 3), ("open", .int 3), ("root", .int 3)]
/-- the tuple that JUDGES holds at "same" -/
def jAt (K : PySem.W.Frag) : Addr := match PySem.W.nsIn K (He.ga K "JUDGES") "same" with
  | some (some (.ref a)) => a
  | _ => 0
def jB (K : PySem.W.Frag) : Bool := He.eqO (PySem.W.nsIn K (He.ga K "JUDGES") "same") (some (some (.ref (jAt K)))) && (match K.lookup (jAt K) with
  | some ⟨.type c, _, .seq its _, _⟩ => decide (c = "tuple") && (decide (its.size ≤ sizeLine) && He.relAll [.int 3, .ref (He.ga K "shows_same")] its.toList)
  | _ => false)
def ex (K : PySem.W.Frag) : Bool := He.valsB K (He.ga K "SIZES") szs && (He.eqO (PySem.W.nsIn K (He.ga K "SIZES") "Out") (some none) && (He.eqO (PySem.W.nsIn K (He.ga K "SIZES") "") (some none) && (He.tupB K "PAIRS" [.str "join", .str "glue", .str "back"] && jB K)))
end Kn

set_option Elab.async false
set_option linter.all false
set_option maxRecDepth 100000
set_option maxHeartbeats 0
/-! The head: the run of the top, and the law. -/
namespace Kn
open PySem PySem.Spec PyProof.Rows L2
abbrev R : PySem.W.OpenRow := PySem.W.OpenLaw.row PySem.Challenge.rw_knotspools_k71_whole_same_by_steps
abbrev hk : PySem.W.Hook := He.hookX 5 fa fn ts [] ex
def ob (s : PySem.W.SharedT) : He.AlX := He.obsX 5 fa fn ts [] ex (HandSHeadRun.getT s)
theorem ob_eq (s : PySem.W.SharedT) : ob s = hk.obs s.abs := He.obsX_eq (HandSHeadRun.getT_eq s)
def names0 : List Str := [("MOST_BLOCKS" : Str), ("MOST_WORD" : Str), ("MOST_TIMES" : Str), ("MOST_MORE" : Str), ("GREATEST" : Str), ("PEGS" : Str), ("LETTERS" : Str), ("is_integer" : Str), ("is_between" : Str), ("is_rounds" : Str), ("is_word" : Str), ("are_pegs" : Str), ("do_undo" : Str), ("undone_word" : Str), ("only" : Str), ("SIZES" : Str), ("PAIRS" : Str), ("is_plain" : Str), ("is_step" : Str), ("left_out" : Str)]
def names1 : List Str := [("turned" : Str), ("joined" : Str), ("parted" : Str), ("cut_at" : Str), ("glued" : Str), ("unpaired" : Str), ("passed" : Str), ("opened" : Str), ("rooted" : Str), ("replaced" : Str), ("done" : Str), ("all_done" : Str), ("is_tight_item" : Str), ("is_tight" : Str), ("at_rounds" : Str), ("ITEMS" : Str), ("is_block" : Str), ("are_blocks" : Str), ("left_of" : Str), ("parts_of" : Str)]
def names2 : List Str := [("has_all" : Str), ("least" : Str), ("cuts_of" : Str), ("length_of" : Str), ("undone_row" : Str), ("pegs_in" : Str), ("lead_to_nothing" : Str), ("lead_to_tight" : Str), ("shows_free" : Str), ("shows_free_at" : Str), ("shows_held_at" : Str), ("shows_held" : Str), ("shows_length" : Str), ("shows_same" : Str), ("are_lots" : Str), ("shows_lots" : Str), ("JUDGES" : Str), ("accepts" : Str), ("_law_bag" : Str), ("_law_take" : Str)]
def names3 : List Str := [("_law_of" : Str), ("_law_back_word" : Str), ("_law_lasting" : Str), ("_law_part" : Str), ("_law_undoing" : Str), ("_law_nested" : Str), ("_law_meet" : Str), ("_law_in_place" : Str), ("_law_in_word" : Str), ("_law_stepped" : Str), ("_law_behind" : Str), ("_law_short_word" : Str), ("_law_melt" : Str), ("_law_paper" : Str), ("_law_moved" : Str), ("_law_papers" : Str), ("_law_bent" : Str), ("_law_cleared" : Str), ("_law_faced" : Str), ("_law_letter_steps" : Str)]
def names4 : List Str := [("_law_asked_right" : Str), ("_law_moved_block" : Str), ("_law_by_letters" : Str), ("_law_right" : Str)]
def names : List Str := names0 ++ (names1 ++ (names2 ++ (names3 ++ (names4))))
theorem run_f (w : World) : HandSHeadRun.RunEq R (PySem.W.view R.prog [92]) hk ob 4000 names (w.withFollow "special-get-raises" false) := by
  intro os
  kernel_rfl
theorem run_t (w : World) : HandSHeadRun.RunEq R (PySem.W.view R.prog [92]) hk ob 4000 names (w.withFollow "special-get-raises" true) := by
  intro os
  kernel_rfl
theorem run (w : World) : HandSHeadRun.RunEq R (PySem.W.view R.prog [92]) hk ob 4000 names w :=
  PySem.W.byRow2 "special-get-raises" (P := fun w => HandSHeadRun.RunEq R (PySem.W.view R.prog [92]) hk ob 4000 names w) run_f run_t w
end Kn

set_option Elab.async false
set_option linter.all false
set_option maxRecDepth 100000
set_option maxHeartbeats 4000000
/-! The data layer: what a reading yields, told over plain data. -/
namespace Kn
open PySem PySem.Spec PyProof.Rows L2

/-! ### heaps with some addresses out of sight -/
def hide (F : List Addr) (H : Hp) : Hp := fun a => if a ∈ F then none else H a
theorem hide_of {F : List Addr} {H : Hp} {a : Addr} {o : HO} (h : hide F H a = some o) : a ∉ F ∧ H a = some o := by
  unfold hide at h
  by_cases e : a ∈ F
  · rw [if_pos e] at h
    cases h
  · rw [if_neg e] at h
    exact ⟨e, h⟩
theorem hide_at {F : List Addr} {H : Hp} {a : Addr} {o : HO} (n : a ∉ F) (h : H a = some o) : hide F H a = some o := by
  unfold hide
  rw [if_neg n]
  exact h
theorem hide_same {F : List Addr} {H : Hp} : Same (hide F H) H := fun _ _ h => (hide_of h).2

/-! ### data in a heap: lists stand by themselves -/
mutual
inductive Rp (K : PySem.W.Frag) (H : Hp) : V → PyData → Prop
  | non : Rp K H .non .none
  | bl (b : Bool) : Rp K H (.bl b) (.bool b)
  | int (i : Int) : Rp K H (.int i) (.int i)
  | str (x : Str) : Rp K H (.str x) (.str x)
  | lst {a : Addr} {xs : List V} {ds : List PyData} : H a = some (.lst xs) → RpAll K H xs ds → Rp K H (.ref a) (.list ds)
  | tup {a : Addr} {xs : List V} {ds : List PyData} : SqT K H a xs → RpAll K H xs ds → Rp K H (.ref a) (.tuple ds)
inductive RpAll (K : PySem.W.Frag) (H : Hp) : List V → List PyData → Prop
  | nil : RpAll K H [] []
  | cons {v : V} {vs : List V} {d : PyData} {ds : List PyData} : Rp K H v d → RpAll K H vs ds → RpAll K H (v :: vs) (d :: ds)
end
theorem Same.sqt {K : PySem.W.Frag} {H H' : Hp} {a : Addr} {xs : List V} (e : Same H H') (h : SqT K H a xs) : SqT K H' a xs := by
  rcases h with (h | ⟨o, h⟩) | h
  · exact .inl (.inl (e _ _ h))
  · exact .inl (.inr ⟨o, e _ _ h⟩)
  · exact .inr h
theorem Same.sql {K : PySem.W.Frag} {H H' : Hp} {a : Addr} {xs : List V} (e : Same H H') (h : SqL K H a xs) : SqL K H' a xs := by
  rcases h with (h | ⟨o, h⟩) | h
  · exact .inl (.inl (e _ _ h))
  · exact .inl (.inr ⟨o, e _ _ h⟩)
  · exact .inr h
section
variable {K : PySem.W.Frag} {H H' : Hp}
mutual
theorem Rp.same (e : Same H H') : ∀ {v : V} {d : PyData}, Rp K H v d → Rp K H' v d
  | _, _, .non => .non
  | _, _, .bl b => .bl b
  | _, _, .int i => .int i
  | _, _, .str x => .str x
  | _, _, .lst h t => .lst (e _ _ h) (RpAll.same e t)
  | _, _, .tup h t => .tup (Same.sqt e h) (RpAll.same e t)
theorem RpAll.same (e : Same H H') : ∀ {vs : List V} {ds : List PyData}, RpAll K H vs ds → RpAll K H' vs ds
  | _, _, .nil => .nil
  | _, _, .cons h t => .cons (Rp.same e h) (RpAll.same e t)
end
mutual
theorem Rp.dp : ∀ {v : V} {d : PyData}, Rp K H v d → Dp K H v d
  | _, _, .non => .non
  | _, _, .bl b => .bl b
  | _, _, .int i => .int i
  | _, _, .str x => .str x
  | _, _, .lst h t => .lst (SqL.of h) (RpAll.dp t)
  | _, _, .tup h t => .tup h (RpAll.dp t)
theorem RpAll.dp : ∀ {vs : List V} {ds : List PyData}, RpAll K H vs ds → DpAll K H vs ds
  | _, _, .nil => .nil
  | _, _, .cons h t => .cons (Rp.dp h) (RpAll.dp t)
end
theorem RpAll.length : ∀ {vs : List V} {ds : List PyData}, RpAll K H vs ds → vs.length = ds.length
  | _, _, .nil => rfl
  | _, _, .cons _ t => by rw [List.length_cons, List.length_cons, RpAll.length t]
theorem RpAll.get : ∀ {vs : List V} {ds : List PyData} {i : Nat} {d : PyData}, RpAll K H vs ds → ds[i]? = some d → ∃ v, vs[i]? = some v ∧ Rp K H v d
  | _, _, _, _, .nil, e => by simp at e
  | _, _, 0, _, .cons r _, e => by simp at e; subst e; exact ⟨_, rfl, r⟩
  | _, _, i + 1, _, .cons _ t, e => by
    obtain ⟨v, h1, h2⟩ := RpAll.get (i := i) t (by simpa using e)
    exact ⟨v, by simpa using h1, h2⟩
theorem RpAll.getV : ∀ {vs : List V} {ds : List PyData} {i : Nat} {v : V}, RpAll K H vs ds → vs[i]? = some v → ∃ d, ds[i]? = some d ∧ Rp K H v d
  | _, _, _, _, .nil, e => by simp at e
  | _, _, 0, _, .cons r _, e => by simp at e; subst e; exact ⟨_, rfl, r⟩
  | _, _, i + 1, _, .cons _ t, e => by
    obtain ⟨v, h1, h2⟩ := RpAll.getV (i := i) t (by simpa using e)
    exact ⟨v, by simpa using h1, h2⟩
theorem RpAll.append : ∀ {xs ys : List V} {us ws : List PyData}, RpAll K H xs us → RpAll K H ys ws → RpAll K H (xs ++ ys) (us ++ ws)
  | _, _, _, _, .nil, s => s
  | _, _, _, _, .cons r t, s => .cons r (RpAll.append t s)
theorem RpAll.take : ∀ {xs : List V} {us : List PyData} (n : Nat), RpAll K H xs us → RpAll K H (xs.take n) (us.take n)
  | _, _, 0, _ => .nil
  | _, _, _ + 1, .nil => .nil
  | _, _, n + 1, .cons r t => .cons r (RpAll.take n t)
theorem RpAll.drop : ∀ {xs : List V} {us : List PyData} (n : Nat), RpAll K H xs us → RpAll K H (xs.drop n) (us.drop n)
  | _, _, 0, r => r
  | _, _, _ + 1, .nil => .nil
  | _, _, n + 1, .cons _ t => RpAll.drop n t
theorem RpAll.set {v : V} {d : PyData} (h : Rp K H v d) : ∀ {xs : List V} {us : List PyData} (i : Nat), RpAll K H xs us → RpAll K H (xs.set i v) (us.set i d)
  | _, _, _, .nil => .nil
  | _, _, 0, .cons _ t => .cons h t
  | _, _, i + 1, .cons q t => .cons q (RpAll.set h i t)
theorem RpAll.rev : ∀ {xs : List V} {us : List PyData}, RpAll K H xs us → RpAll K H xs.reverse us.reverse
  | _, _, .nil => .nil
  | _, _, .cons r t => by
    rw [List.reverse_cons, List.reverse_cons]
    exact RpAll.append (RpAll.rev t) (.cons r .nil)
theorem RpAll.bools : ∀ {xs : List V} {bs : List Bool}, RpAll K H xs (bs.map PyData.bool) → xs = bs.map V.bl
  | _, [], .nil => rfl
  | _, b :: bs, .cons (.bl _) t => by rw [List.map_cons, RpAll.bools t]
theorem RpAll.strs : ∀ {xs : List V} {bs : List Str}, RpAll K H xs (bs.map PyData.str) → xs = bs.map V.str
  | _, [], .nil => rfl
  | _, b :: bs, .cons (.str _) t => by rw [List.map_cons, RpAll.strs t]
theorem RpAll.ints : ∀ {xs : List V} {bs : List Int}, RpAll K H xs (bs.map PyData.int) → xs = bs.map V.int
  | _, [], .nil => rfl
  | _, b :: bs, .cons (.int _) t => by rw [List.map_cons, RpAll.ints t]
theorem rpAll_ints : ∀ {bs : List Int}, RpAll K H (bs.map V.int) (bs.map PyData.int)
  | [] => .nil
  | b :: bs => .cons (.int b) rpAll_ints
theorem rpAll_strs : ∀ {bs : List Str}, RpAll K H (bs.map V.str) (bs.map PyData.str)
  | [] => .nil
  | b :: bs => .cons (.str b) rpAll_strs
end

/-- a slot's, an argument's, an answer's value: data, or a value as it is (the bag's address, a def) -/
inductive Da where
  | d (x : PyData)
  | v (x : V)
  | o (x : HO)
  | s (xs : List V)
def RpX (K : PySem.W.Frag) (H : Hp) (x : V) : Da → Prop
  | .d p => Rp K H x p
  | .v y => x = y
  | .o u => ∃ a, x = .ref a ∧ H a = some u
  | .s xs => ∃ a, x = .ref a ∧ SqL K H a xs
theorem RpX.same {K : PySem.W.Frag} {H H' : Hp} (e : Same H H') {v : V} {w : Da} (h : RpX K H v w) : RpX K H' v w := by
  cases w with
  | d p => exact Rp.same e h
  | v y => exact h
  | o u =>
    obtain ⟨a, e1, e2⟩ := h
    exact ⟨a, e1, e _ _ e2⟩
  | s xs =>
    obtain ⟨a, e1, e2⟩ := h
    exact ⟨a, e1, Same.sql e e2⟩
inductive RpXs (K : PySem.W.Frag) (H : Hp) : List V → List Da → Prop
  | nil : RpXs K H [] []
  | cons {v : V} {vs : List V} {d : Da} {ds : List Da} : RpX K H v d → RpXs K H vs ds → RpXs K H (v :: vs) (d :: ds)
theorem RpXs.same {K : PySem.W.Frag} {H H' : Hp} (e : Same H H') : ∀ {vs : List V} {ws : List Da}, RpXs K H vs ws → RpXs K H' vs ws
  | _, _, .nil => .nil
  | _, _, .cons h t => .cons (RpX.same e h) (RpXs.same e t)
theorem RpXs.length {K : PySem.W.Frag} {H : Hp} : ∀ {vs : List V} {ws : List Da}, RpXs K H vs ws → vs.length = ws.length
  | _, _, .nil => rfl
  | _, _, .cons _ t => by rw [List.length_cons, List.length_cons, RpXs.length t]
theorem RpXs.data {K : PySem.W.Frag} {H : Hp} : ∀ {vs : List V} {ds : List PyData}, RpXs K H vs (ds.map Da.d) → RpAll K H vs ds
  | _, [], .nil => .nil
  | _, d :: ds, .cons h t => .cons h (RpXs.data t)
theorem RpAll.xs {K : PySem.W.Frag} {H : Hp} : ∀ {vs : List V} {ds : List PyData}, RpAll K H vs ds → RpXs K H vs (ds.map Da.d)
  | _, _, .nil => .nil
  | _, _, .cons h t => .cons h (RpAll.xs t)

/-! ### the bag, and a step of the heap -/
/-- the bag's address, where one is carried -/
abbrev Res := Option Addr
def Res.adr : Res → List Addr
  | none => []
  | some b => [b]
def bagO (s d c : Int) : HO := .lst [.int s, .int d, .int c]
def On (r : Res) (H : Hp) : Prop := ∀ b, r = some b → ∃ s d c : Int, H b = some (bagO s d c) ∧ 0 ≤ s ∧ s < 2147483587 ∧ 0 ≤ d
def hid (F : List Addr) (r : Res) : List Addr := r.adr ++ F
/-- all but the bag stands, nothing is gone -/
structure Stp (r : Res) (H H' : Hp) : Prop where
  on : On r H'
  keep : ∀ a o, H a = some o → a ∉ r.adr → H' a = some o
  dom : ∀ a, H' a = none → H a = none
/-- the frame's own addresses are there -/
def FOk (F : List Addr) (r : Res) (H : Hp) : Prop := ∀ a ∈ F, H a ≠ none ∧ a ∉ r.adr
theorem Stp.refl {r : Res} {H : Hp} (h : On r H) : Stp r H H := ⟨h, fun _ _ e _ => e, fun _ e => e⟩
theorem Stp.trans {r : Res} {H H1 H2 : Hp} (a : Stp r H H1) (b : Stp r H1 H2) : Stp r H H2 := ⟨b.on, fun x o e n => b.keep x o (a.keep x o e n) n, fun x e => a.dom x (b.dom x e)⟩
theorem On.some {r : Res} {H : Hp} (h : On r H) {b : Addr} (e : b ∈ r.adr) : H b ≠ none := by
  cases r with
  | none => cases e
  | some c =>
    obtain ⟨s, d, k, q, _⟩ := h c rfl
    have e2 : b = c := List.mem_singleton.mp e
    subst e2
    rw [q]
    exact fun z => nomatch z
/-- a new object -/
theorem Stp.new {r : Res} {H : Hp} {p : Addr} {o : HO} (h : On r H) (n : H p = none) : Stp r H (upd H p o) := by
  refine ⟨fun b e => ?_, fun a u e _ => ?_, fun a e => ?_⟩
  · obtain ⟨s, d, k, q, z⟩ := h b e
    exact ⟨s, d, k, by rw [upd_ne (ne_of_none q n)]; exact q, z⟩
  · rw [upd_ne (ne_of_none e n)]
    exact e
  · by_cases q : a = p
    · subst q
      exact n
    · rw [upd_ne q] at e
      exact e
theorem Stp.same {r : Res} {F : List Addr} {H H' : Hp} (s : Stp r H H') : Same (hide (hid F r) H) (hide (hid F r) H') := fun a o h => by
  obtain ⟨n, e⟩ := hide_of h
  exact hide_at n (s.keep a o e fun z => n (List.mem_append_left _ z))
theorem Stp.fok {r : Res} {F : List Addr} {H H' : Hp} (s : Stp r H H') (h : FOk F r H) : FOk F r H' := fun a m => ⟨fun e => (h a m).1 (s.dom a e), (h a m).2⟩
/-- an address that is new is in sight -/
theorem new_out {r : Res} {F : List Addr} {H : Hp} {p : Addr} (h : On r H) (f : FOk F r H) (n : H p = none) : p ∉ hid F r := fun z => by
  rcases List.mem_append.mp z with z | z
  · exact h.some z n
  · exact (f p z).1 n

/-! ### the slots -/
/-- what is known of the slots -/
abbrev Sl := List (Option Da)
structure SEnv (K : PySem.W.Frag) (H : Hp) (σ : L2.St) (ds : Sl) : Prop where
  len : σ.length = ds.length
  at_ : ∀ (i : Nat) (w : Da), ds[i]? = some (some w) → ∃ v, σ[i]? = some (some v) ∧ RpX K H v w
theorem SEnv.same {K : PySem.W.Frag} {H H' : Hp} {σ : L2.St} {ds : Sl} (e : Same H H') (h : SEnv K H σ ds) : SEnv K H' σ ds :=
  ⟨h.len, fun i w q => let ⟨v, a, b⟩ := h.at_ i w q; ⟨v, a, RpX.same e b⟩⟩
theorem SEnv.set {K : PySem.W.Frag} {H : Hp} {σ : L2.St} {ds : Sl} (h : SEnv K H σ ds) (i : Nat) {v : V} {w : Da} (r : RpX K H v w) : SEnv K H (σ.set i (some v)) (ds.set i (some w)) := by
  refine ⟨by rw [List.length_set, List.length_set]; exact h.len, fun j u q => ?_⟩
  by_cases e : i = j
  · subst e
    by_cases l : i < ds.length
    · rw [List.getElem?_set_self l] at q
      cases q
      exact ⟨v, List.getElem?_set_self (by rw [h.len]; exact l), r⟩
    · rw [List.getElem?_eq_none (by rw [List.length_set]; omega)] at q
      cases q
  · rw [List.getElem?_set_ne e] at q ⊢
    exact h.at_ j u q
theorem SEnv.wipe1 {K : PySem.W.Frag} {H : Hp} {σ : L2.St} {ds : Sl} (h : SEnv K H σ ds) (i : Nat) : SEnv K H (σ.set i none) (ds.set i none) := by
  refine ⟨by rw [List.length_set, List.length_set]; exact h.len, fun j u q => ?_⟩
  by_cases e : i = j
  · subst e
    by_cases l : i < ds.length
    · rw [List.getElem?_set_self l] at q
      cases q
    · rw [List.getElem?_eq_none (by rw [List.length_set]; omega)] at q
      cases q
  · rw [List.getElem?_set_ne e] at q ⊢
    exact h.at_ j u q
def wipeD (ds : Sl) : List Nat → Sl
  | [] => ds
  | v :: vs => (wipeD ds vs).set v none
theorem SEnv.wipe {K : PySem.W.Frag} {H : Hp} {σ : L2.St} {ds : Sl} (h : SEnv K H σ ds) : ∀ vs : List Nat, SEnv K H (L2.wipe σ vs) (wipeD ds vs)
  | [] => h
  | v :: vs => (SEnv.wipe h vs).wipe1 v
theorem SEnv.var {K : PySem.W.Frag} {H : Hp} {σ : L2.St} {ds : Sl} (h : SEnv K H σ ds) {i : Nat} {w : Da} (e : ds[i]? = some (some w)) : ∃ v, σ[i]? = some (some v) ∧ RpX K H v w := h.at_ i w e

/-! ### what a reading yields -/
section
variable (K : PySem.W.Frag)
/-- one of the answers of P comes, all else stands -/
def Ev (r : Res) (te : TE) (ds : Sl) (P : Da → Prop) : Prop := ∀ (F : List Addr) (σ : L2.St) (H : Hp), On r H → FOk F r H → SEnv K (hide (hid F r) H) σ ds →
  ∀ Q : VK, (∀ v H2 w, P w → Stp r H H2 → RpX K (hide (hid F r) H2) v w → Q v H2) → te σ H Q
def EvT (r : Res) (tt : TT) (ds : Sl) (P : Bool → Prop) : Prop := ∀ (F : List Addr) (σ : L2.St) (H : Hp), On r H → FOk F r H → SEnv K (hide (hid F r) H) σ ds →
  ∀ Q : Bool → Hp → Prop, (∀ b H2, P b → Stp r H H2 → Q b H2) → tt σ H Q
def EvA (r : Res) (ta : TA) (ds : Sl) (P : List Da → Prop) : Prop := ∀ (F : List Addr) (σ : L2.St) (H : Hp), On r H → FOk F r H → SEnv K (hide (hid F r) H) σ ds →
  ∀ Q : List V → Hp → Prop, (∀ vs H2 ws, P ws → Stp r H H2 → RpXs K (hide (hid F r) H2) vs ws → Q vs H2) → ta σ H Q
/-- a slice's end -/
def EvO (r : Res) (to : TO) (ds : Sl) (o : Option Int) : Prop := ∀ (F : List Addr) (σ : L2.St) (H : Hp), On r H → FOk F r H → SEnv K (hide (hid F r) H) σ ds →
  ∀ Q : Option Int → Hp → Prop, (∀ H2, Stp r H H2 → Q o H2) → to σ H Q
/-- two values to one, by a rule -/
def RV (r : Res) (R : R2) (x y : Da) (P : Da → Prop) : Prop := ∀ (F : List Addr) (H : Hp) (v w : V), On r H → FOk F r H → RpX K (hide (hid F r) H) v x → RpX K (hide (hid F r) H) w y →
  ∀ Q : VK, (∀ u H2 z, P z → Stp r H H2 → RpX K (hide (hid F r) H2) u z → Q u H2) → R v w H Q
def RU (r : Res) (R : V → Hp → VK → Prop) (x : Da) (P : Da → Prop) : Prop := ∀ (F : List Addr) (H : Hp) (v : V), On r H → FOk F r H → RpX K (hide (hid F r) H) v x →
  ∀ Q : VK, (∀ u H2 z, P z → Stp r H H2 → RpX K (hide (hid F r) H2) u z → Q u H2) → R v H Q
def RC (r : Res) (R : List V → Hp → VK → Prop) (xs : List Da) (P : Da → Prop) : Prop := ∀ (F : List Addr) (H : Hp) (vs : List V), On r H → FOk F r H → RpXs K (hide (hid F r) H) vs xs →
  ∀ Q : VK, (∀ u H2 z, P z → Stp r H H2 → RpX K (hide (hid F r) H2) u z → Q u H2) → R vs H Q
/-- a method of a value -/
def RM (r : Res) (R : V → List V → Hp → VK → Prop) (x : Da) (xs : List Da) (P : Da → Prop) : Prop := ∀ (F : List Addr) (H : Hp) (v : V) (vs : List V), On r H → FOk F r H → RpX K (hide (hid F r) H) v x → RpXs K (hide (hid F r) H) vs xs →
  ∀ Q : VK, (∀ u H2 z, P z → Stp r H H2 → RpX K (hide (hid F r) H2) u z → Q u H2) → R v vs H Q
/-- a slice -/
def RS (r : Res) (R : V → Option Int → Option Int → Hp → VK → Prop) (x : Da) (lo hi : Option Int) (P : Da → Prop) : Prop := ∀ (F : List Addr) (H : Hp) (v : V), On r H → FOk F r H → RpX K (hide (hid F r) H) v x →
  ∀ Q : VK, (∀ u H2 z, P z → Stp r H H2 → RpX K (hide (hid F r) H2) u z → Q u H2) → R v lo hi H Q
end
/-- just this one -/
abbrev Is (w : Da) : Da → Prop := fun x => x = w
abbrev IsB (b : Bool) : Bool → Prop := fun x => x = b
abbrev IsA (ws : List Da) : List Da → Prop := fun x => x = ws

section
variable {K : PySem.W.Frag} {r : Res} {ds : Sl} {P : Da → Prop} {ta tb tc te : TE} {tt tu : TT}
theorem Ev.imp {P' : Da → Prop} (h : Ev K r te ds P) (i : ∀ w, P w → P' w) : Ev K r te ds P' := fun F σ H o f e Q q => h F σ H o f e Q fun v H2 w p => q v H2 w (i w p)
theorem EvT.imp {P P' : Bool → Prop} (h : EvT K r tt ds P) (i : ∀ w, P w → P' w) : EvT K r tt ds P' := fun F σ H o f e Q q => h F σ H o f e Q fun v H2 p => q v H2 (i v p)
theorem ev_var {i : Nat} {w : Da} (e : ds[i]? = some (some w)) : Ev K r (tVar i) ds (Is w) := fun F σ H o f s Q q => by
  obtain ⟨v, a, b⟩ := s.at_ i w e
  exact ⟨v, a, q v H w rfl (Stp.refl o) b⟩
theorem ev_int {i : Int} : Ev K r (tC (.int i)) ds (Is (.d (.int i))) := fun F σ H o f s Q q => q _ H _ rfl (Stp.refl o) (Rp.int i)
theorem ev_str {x : Str} : Ev K r (tC (.str x)) ds (Is (.d (.str x))) := fun F σ H o f s Q q => q _ H _ rfl (Stp.refl o) (Rp.str x)
theorem ev_bl {x : Bool} : Ev K r (tC (.bl x)) ds (Is (.d (.bool x))) := fun F σ H o f s Q q => q _ H _ rfl (Stp.refl o) (Rp.bl x)
theorem ev_non : Ev K r (tC .non) ds (Is (.d .none)) := fun F σ H o f s Q q => q _ H _ rfl (Stp.refl o) Rp.non
theorem ev_val {v : V} : Ev K r (tC v) ds (Is (.v v)) := fun F σ H o f s Q q => q _ H _ rfl (Stp.refl o) rfl
/-- general two-place -/
theorem evn_op {R : R2} {Pa : Da → Prop} (ha : Ev K r ta ds Pa) (hb : ∀ x, Pa x → ∃ Pb, Ev K r tb ds Pb ∧ ∀ y, Pb y → RV K r R x y P) : Ev K r (tOp R ta tb) ds P := fun F σ H o f s Q q => by
  refine ha F σ H o f s _ fun v H1 x px s1 rx => ?_
  obtain ⟨Pb, eb, k⟩ := hb x px
  refine eb F σ H1 s1.on (s1.fok f) (s.same s1.same) _ fun w H2 y py s2 ry => ?_
  exact k y py F H2 v w s2.on (s2.fok (s1.fok f)) (rx.same s2.same) ry Q fun u H3 z pz s3 rz => q u H3 z pz ((s1.trans s2).trans s3) rz
theorem ev_op {R : R2} {x y : Da} (ha : Ev K r ta ds (Is x)) (hb : Ev K r tb ds (Is y)) (hr : RV K r R x y P) : Ev K r (tOp R ta tb) ds P :=
  evn_op ha fun x' e => ⟨_, hb, fun y' e' => by subst e e'; exact hr⟩
theorem ev_un {R : V → Hp → VK → Prop} {x : Da} (ha : Ev K r ta ds (Is x)) (hr : RU K r R x P) : Ev K r (tUn R ta) ds P := fun F σ H o f s Q q => by
  refine ha F σ H o f s _ fun v H1 x' px s1 rx => ?_
  subst px
  exact hr F H1 v s1.on (s1.fok f) rx Q fun u H3 z pz s3 rz => q u H3 z pz (s1.trans s3) rz
theorem evn_un {R : V → Hp → VK → Prop} {Pa : Da → Prop} (ha : Ev K r ta ds Pa) (hr : ∀ x, Pa x → RU K r R x P) : Ev K r (tUn R ta) ds P := fun F σ H o f s Q q => by
  refine ha F σ H o f s _ fun v H1 x' px s1 rx => ?_
  exact hr x' px F H1 v s1.on (s1.fok f) rx Q fun u H3 z pz s3 rz => q u H3 z pz (s1.trans s3) rz
/-! ### arguments -/
theorem ea_nil : EvA K r tNil ds (IsA []) := fun F σ H o f s Q q => q [] H _ rfl (Stp.refl o) .nil
theorem ean_cons {t : TA} {Pa : Da → Prop} {P : List Da → Prop} (ha : Ev K r ta ds Pa) (hb : ∀ x, Pa x → ∃ Pb, EvA K r t ds Pb ∧ ∀ ys, Pb ys → P (x :: ys)) : EvA K r (tCons ta t) ds P := fun F σ H o f s Q q => by
  refine ha F σ H o f s _ fun v H1 x px s1 rx => ?_
  obtain ⟨Pb, eb, k⟩ := hb x px
  refine eb F σ H1 s1.on (s1.fok f) (s.same s1.same) _ fun w H2 y py s2 ry => ?_
  exact q (v :: w) H2 (x :: y) (k y py) (s1.trans s2) (.cons (rx.same s2.same) ry)
theorem ea_cons {t : TA} {x : Da} {ys : List Da} (ha : Ev K r ta ds (Is x)) (hb : EvA K r t ds (IsA ys)) : EvA K r (tCons ta t) ds (IsA (x :: ys)) :=
  ean_cons ha fun x' e => ⟨_, hb, fun y' e' => by subst e e'; rfl⟩
/-! ### displays -/
theorem evn_tup {t : TA} {Pa : List Da → Prop} (ha : EvA K r t ds Pa) (h : ∀ ws, Pa ws → ∃ xs : List PyData, ws = xs.map Da.d ∧ xs.length ≤ 100000 ∧ P (.d (.tuple xs))) : Ev K r (tTup t) ds P := fun F σ H o f s Q q => by
  refine ha F σ H o f s _ fun vs H1 ws pw s1 rw' => ?_
  obtain ⟨xs, e, l, p⟩ := h ws pw
  subst e
  have ra := rw'.data
  refine ⟨Nat.le_trans (by rw [ra.length]; exact l) (by decide), fun a na => ?_⟩
  have s2 : Stp r H1 (upd H1 a (.tup vs)) := Stp.new s1.on na
  have no := new_out s1.on (s1.fok f) na
  exact q _ _ _ p (s1.trans s2) (Rp.tup (.inl (.inl (hide_at no upd_same))) (ra.same s2.same))
theorem ev_tup {t : TA} {xs : List PyData} (ha : EvA K r t ds (IsA (xs.map Da.d))) (l : xs.length ≤ 100000) : Ev K r (tTup t) ds (Is (.d (.tuple xs))) :=
  evn_tup ha fun ws e => ⟨xs, e, l, rfl⟩
theorem evn_lst {t : TA} {Pa : List Da → Prop} (ha : EvA K r t ds Pa) (h : ∀ ws, Pa ws → ∃ xs : List PyData, ws = xs.map Da.d ∧ xs.length ≤ 100000 ∧ P (.d (.list xs))) : Ev K r (tLst t) ds P := fun F σ H o f s Q q => by
  refine ha F σ H o f s _ fun vs H1 ws pw s1 rw' => ?_
  obtain ⟨xs, e, l, p⟩ := h ws pw
  subst e
  have ra := rw'.data
  refine ⟨Nat.le_trans (by rw [ra.length]; exact l) (by decide), fun a na => ?_⟩
  have s2 : Stp r H1 (upd H1 a (.lst vs)) := Stp.new s1.on na
  have no := new_out s1.on (s1.fok f) na
  exact q _ _ _ p (s1.trans s2) (Rp.lst (hide_at no upd_same) (ra.same s2.same))
theorem ev_lst {t : TA} {xs : List PyData} (ha : EvA K r t ds (IsA (xs.map Da.d))) (l : xs.length ≤ 100000) : Ev K r (tLst t) ds (Is (.d (.list xs))) :=
  evn_lst ha fun ws e => ⟨xs, e, l, rfl⟩
end
end Kn

set_option Elab.async false
set_option linter.all false
set_option maxRecDepth 100000
set_option maxHeartbeats 4000000
/-! Operators, tests, slices, built-ins over data. -/
namespace Kn
open PySem PySem.Spec PyProof.Rows L2
section
variable {K K' : PySem.W.Frag} {r : Res} {ds : Sl} {P : Da → Prop} {ta tb tc te : TE} {tt tu : TT} {i j : Int} {a b : Bool} {x y : Str} {xs ys : List PyData} {d e : PyData}
/-- a new list, a new tuple in sight -/
theorem put_lst {F : List Addr} {H : Hp} {p : Addr} {vs : List V} (o : On r H) (f : FOk F r H) (np : H p = none) (ra : RpAll K (hide (hid F r) H) vs xs) :
    Stp r H (upd H p (.lst vs)) ∧ RpX K (hide (hid F r) (upd H p (.lst vs))) (.ref p) (.d (.list xs)) := by
  have s : Stp r H (upd H p (.lst vs)) := Stp.new o np
  exact ⟨s, Rp.lst (hide_at (new_out o f np) upd_same) (ra.same s.same)⟩
theorem put_tup {F : List Addr} {H : Hp} {p : Addr} {vs : List V} (o : On r H) (f : FOk F r H) (np : H p = none) (ra : RpAll K (hide (hid F r) H) vs xs) :
    Stp r H (upd H p (.tup vs)) ∧ RpX K (hide (hid F r) (upd H p (.tup vs))) (.ref p) (.d (.tuple xs)) := by
  have s : Stp r H (upd H p (.tup vs)) := Stp.new o np
  exact ⟨s, Rp.tup (.inl (.inl (hide_at (new_out o f np) upd_same))) (ra.same s.same)⟩
/-! ### ints -/
theorem rv_int0 {g : Int → Int → Int} : RV K r (rI0 fun i j => .int (g i j)) (.d (.int i)) (.d (.int j)) (Is (.d (.int (g i j)))) := fun F H v w o f hv hw Q q => by
  cases hv; cases hw
  exact ⟨i, j, rfl, rfl, q _ H _ rfl (Stp.refl o) (Rp.int _)⟩
theorem rv_bl0 {g : Int → Int → Bool} : RV K r (rI0 fun i j => .bl (g i j)) (.d (.int i)) (.d (.int j)) (Is (.d (.bool (g i j)))) := fun F H v w o f hv hw Q q => by
  cases hv; cases hw
  exact ⟨i, j, rfl, rfl, q _ H _ rfl (Stp.refl o) (Rp.bl _)⟩
theorem rv_intC {C : Int → Int → Prop} {g : Int → Int → Int} (hc : C i j) : RV K r (rI C fun i j => .int (g i j)) (.d (.int i)) (.d (.int j)) (Is (.d (.int (g i j)))) := fun F H v w o f hv hw Q q => by
  cases hv; cases hw
  exact ⟨i, j, rfl, rfl, hc, q _ H _ rfl (Stp.refl o) (Rp.int _)⟩
theorem rv_eqI : RV K r rEq (.d (.int i)) (.d (.int j)) (Is (.d (.bool (i == j)))) := fun F H v w o f hv hw Q q => by
  cases hv; cases hw
  exact ⟨rfl, q _ H _ rfl (Stp.refl o) (by rw [dec_int]; exact Rp.bl _)⟩
theorem rv_neI : RV K r rNe (.d (.int i)) (.d (.int j)) (Is (.d (.bool (!(i == j))))) := fun F H v w o f hv hw Q q => by
  cases hv; cases hw
  exact ⟨rfl, q _ H _ rfl (Stp.refl o) (by rw [dec_int]; exact Rp.bl _)⟩
theorem rv_eqS : RV K r rEq (.d (.str x)) (.d (.str y)) (Is (.d (.bool (x == y)))) := fun F H v w o f hv hw Q q => by
  cases hv; cases hw
  exact ⟨rfl, q _ H _ rfl (Stp.refl o) (by rw [dec_str]; exact Rp.bl _)⟩
theorem rv_neS : RV K r rNe (.d (.str x)) (.d (.str y)) (Is (.d (.bool (!(x == y))))) := fun F H v w o f hv hw Q q => by
  cases hv; cases hw
  exact ⟨rfl, q _ H _ rfl (Stp.refl o) (by rw [dec_str]; exact Rp.bl _)⟩
theorem ru_neg : RU K r (rU fun i => .int (-i)) (.d (.int i)) (Is (.d (.int (-i)))) := fun F H v o f hv Q q => by
  cases hv
  exact ⟨i, rfl, q _ H _ rfl (Stp.refl o) (Rp.int _)⟩
/-! ### is None, is True -/
def isNon : PyData → Bool
  | .none => true
  | _ => false
theorem rp_non {H : Hp} {v : V} (h : Rp K H v d) : decide (v = .non) = isNon d := by
  cases h with
  | non => exact decide_eq_true rfl
  | bl => exact decide_eq_false (fun z => nomatch z)
  | int => exact decide_eq_false (fun z => nomatch z)
  | str => exact decide_eq_false (fun z => nomatch z)
  | lst => exact decide_eq_false (fun z => nomatch z)
  | tup => exact decide_eq_false (fun z => nomatch z)
theorem rv_isN : RV K r (fun x y H Q => y = .non ∧ Q (.bl (decide (x = .non))) H) (.d d) (.d .none) (Is (.d (.bool (isNon d)))) := fun F H v w o f hv hw Q q => by
  cases hw
  exact ⟨rfl, q _ H _ rfl (Stp.refl o) (by rw [rp_non (show Rp K _ v d from hv)]; exact Rp.bl _)⟩
theorem rv_notN : RV K r (fun x y H Q => y = .non ∧ Q (.bl (!decide (x = .non))) H) (.d d) (.d .none) (Is (.d (.bool (!isNon d)))) := fun F H v w o f hv hw Q q => by
  cases hw
  exact ⟨rfl, q _ H _ rfl (Stp.refl o) (by rw [rp_non (show Rp K _ v d from hv)]; exact Rp.bl _)⟩
theorem rv_notBl : RV K r rNotB (.d (.bool a)) (.d (.bool b)) (Is (.d (.bool (!(a == b))))) := fun F H v w o f hv hw Q q => by
  cases hv; cases hw
  refine ⟨a, b, rfl, rfl, q _ H _ rfl (Stp.refl o) ?_⟩
  rw [show decide (a = b) = (a == b) by cases a <;> cases b <;> rfl]
  exact Rp.bl _
/-! ### == of data -/
theorem rv_eqD (hK : K' = K := by rfl) (h1 : SeqAt.shaped d = true) (h2 : SeqAt.shaped e = true) : RV K r (rEqD K') (.d d) (.d e) (Is (.d (.bool (PyData.eqv d e)))) := fun F H v w o f hv hw Q q => by
  subst hK
  exact ⟨d, e, Rp.dp (Rp.same hide_same hv), Rp.dp (Rp.same hide_same hw), h1, h2, q _ H _ rfl (Stp.refl o) (Rp.bl _)⟩
theorem rv_neD (hK : K' = K := by rfl) (h1 : SeqAt.shaped d = true) (h2 : SeqAt.shaped e = true) : RV K r (rNeD K') (.d d) (.d e) (Is (.d (.bool (!PyData.eqv d e)))) := fun F H v w o f hv hw Q q => by
  subst hK
  exact ⟨d, e, Rp.dp (Rp.same hide_same hv), Rp.dp (Rp.same hide_same hw), h1, h2, q _ H _ rfl (Stp.refl o) (Rp.bl _)⟩
/-! ### texts -/
theorem rv_addS (h : x.length + y.length ≤ 100000) : RV K r (fun x y H Q => ∃ i j, x = .str i ∧ y = .str j ∧ i.length + j.length ≤ sizeLine ∧ Q (.str (i ++ j)) H) (.d (.str x)) (.d (.str y)) (Is (.d (.str (x ++ y)))) := fun F H v w o f hv hw Q q => by
  cases hv; cases hw
  exact ⟨x, y, rfl, rfl, Nat.le_trans h (by decide), q _ H _ rfl (Stp.refl o) (Rp.str _)⟩
theorem rv_inSign {c : Nat} : RV K r (fun x y H Q => ∃ (c : Nat) (z : Str), x = .str ⟨#[c]⟩ ∧ y = .str z ∧ Q (.bl (decide (c ∈ z.cps.toList))) H) (.d (.str ⟨#[c]⟩)) (.d (.str y)) (Is (.d (.bool (decide (c ∈ y.cps.toList))))) := fun F H v w o f hv hw Q q => by
  cases hv; cases hw
  exact ⟨c, y, rfl, rfl, q _ H _ rfl (Stp.refl o) (Rp.bl _)⟩
theorem rv_ixS {c : Nat} (hl : y.length ≤ 100000) (h : atI y.cps.toList i = some c) : RV K r rIxS (.d (.str y)) (.d (.int i)) (Is (.d (.str ⟨#[c]⟩))) := fun F H v w o f hv hw Q q => by
  cases hv; cases hw
  exact ⟨y, i, c, rfl, rfl, Nat.le_trans hl (by decide), h, q _ H _ rfl (Stp.refl o) (Rp.str _)⟩
/-! ### items -/
theorem atI_rp {H : Hp} {vs : List V} (ra : RpAll K H vs xs) (h : atI xs i = some d) : ∃ v, atI vs i = some v ∧ Rp K H v d := by
  unfold atI at h ⊢
  rw [ra.length]
  cases q : ixN xs.length i with
  | none =>
    rw [q] at h
    cases h
  | some k =>
    rw [q] at h
    obtain ⟨v, h1, h2⟩ := ra.get (show xs[k]? = some d from h)
    exact ⟨v, h1, h2⟩
theorem rv_ixT (h : atI xs i = some d) (hK : K' = K := by rfl) : RV K r (rIxT K') (.d (.tuple xs)) (.d (.int i)) (Is (.d d)) := fun F H v w o f hv hw Q q => by
  subst hK
  cases hw
  cases hv with
  | tup hs ra =>
    obtain ⟨u, h1, h2⟩ := atI_rp ra h
    exact ⟨_, _, i, u, rfl, rfl, Same.sqt hide_same hs, h1, q _ H _ rfl (Stp.refl o) h2⟩
theorem rv_ixL (h : atI xs i = some d) (hK : K' = K := by rfl) : RV K r (rIxL K') (.d (.list xs)) (.d (.int i)) (Is (.d d)) := fun F H v w o f hv hw Q q => by
  subst hK
  cases hw
  cases hv with
  | lst hs ra =>
    obtain ⟨u, h1, h2⟩ := atI_rp ra h
    exact ⟨_, _, i, u, rfl, rfl, SqL.of (hide_of hs).2, h1, q _ H _ rfl (Stp.refl o) h2⟩
/-! ### in a row of flat things -/
def flatP : PyData → Bool
  | .none => true
  | .bool _ => true
  | .int _ => true
  | .str _ => true
  | _ => false
def flV : PyData → V
  | .bool b => .bl b
  | .int i => .int i
  | .str x => .str x
  | _ => .non
theorem rp_flat {H : Hp} {v : V} (h : Rp K H v d) (hf : flatP d = true) : v = flV d ∧ flatV (flV d) = true := by
  cases h with
  | non => exact ⟨rfl, rfl⟩
  | bl => exact ⟨rfl, rfl⟩
  | int => exact ⟨rfl, rfl⟩
  | str => exact ⟨rfl, rfl⟩
  | lst => cases hf
  | tup => cases hf
theorem rpAll_flat {H : Hp} : ∀ {vs : List V} {xs : List PyData}, RpAll K H vs xs → xs.all flatP = true → vs = xs.map flV ∧ vs.all flatV = true
  | _, _, .nil, _ => ⟨rfl, rfl⟩
  | _, _, .cons h t, e => by
    rw [List.all_cons, Bool.and_eq_true] at e
    obtain ⟨h1, h2⟩ := rp_flat h e.1
    obtain ⟨h3, h4⟩ := rpAll_flat t e.2
    refine ⟨by rw [h1, h3, List.map_cons], ?_⟩
    rw [List.all_cons, h1, h2, h4] <;> rfl
theorem rv_inT {neg : Bool} (h1 : flatP d = true) (h2 : xs.all flatP = true) (hK : K' = K := by rfl) : RV K r (rIn K' neg) (.d d) (.d (.tuple xs)) (Is (.d (.bool (if neg then !inV (flV d) (xs.map flV) else inV (flV d) (xs.map flV))))) := fun F H v w o f hv hw Q q => by
  subst hK
  obtain ⟨e1, f1⟩ := rp_flat hv h1
  cases hw with
  | tup hs ra =>
    obtain ⟨e2, f2⟩ := rpAll_flat ra h2
    subst e1 e2
    exact ⟨_, _, rfl, .inr (Same.sqt hide_same hs), f1, f2, q _ H _ rfl (Stp.refl o) (Rp.bl _)⟩
theorem rv_inL {neg : Bool} (h1 : flatP d = true) (h2 : xs.all flatP = true) (hK : K' = K := by rfl) : RV K r (rIn K' neg) (.d d) (.d (.list xs)) (Is (.d (.bool (if neg then !inV (flV d) (xs.map flV) else inV (flV d) (xs.map flV))))) := fun F H v w o f hv hw Q q => by
  subst hK
  obtain ⟨e1, f1⟩ := rp_flat hv h1
  cases hw with
  | lst hs ra =>
    obtain ⟨e2, f2⟩ := rpAll_flat ra h2
    subst e1 e2
    exact ⟨_, _, rfl, .inl (SqL.of (hide_of hs).2), f1, f2, q _ H _ rfl (Stp.refl o) (Rp.bl _)⟩
/-! ### joined rows -/
theorem rv_cat (h : xs.length + ys.length ≤ 100000) : RV K r rCat (.d (.list xs)) (.d (.list ys)) (Is (.d (.list (xs ++ ys)))) := fun F H v w o f hv hw Q q => by
  cases hv with
  | lst h1 r1 =>
    cases hw with
    | lst h2 r2 =>
      refine ⟨_, _, _, _, rfl, rfl, (hide_of h1).2, (hide_of h2).2, Nat.le_trans (by rw [r1.length, r2.length]; exact h) (by decide), fun p np => ?_⟩
      obtain ⟨s, z⟩ := put_lst o f np ((r1.append r2))
      exact q _ _ _ rfl s z
theorem rv_catA (h : xs.length + ys.length ≤ 100000) (hK : K' = K := by rfl) : RV K r (rCatA K') (.d (.tuple xs)) (.d (.tuple ys)) (Is (.d (.tuple (xs ++ ys)))) := fun F H v w o f hv hw Q q => by
  subst hK
  cases hv with
  | tup h1 r1 =>
    cases hw with
    | tup h2 r2 =>
      refine ⟨_, _, _, _, rfl, rfl, Same.sqt hide_same h1, Same.sqt hide_same h2, Nat.le_trans (by rw [r1.length, r2.length]; exact h) (by decide), fun e => ?_, fun e1 e => ?_, fun e1 e2 p np => ?_⟩
      · subst e
        cases r1
        exact q _ H _ rfl (Stp.refl o) (Rp.tup h2 r2)
      · subst e
        cases r2
        refine q _ H _ rfl (Stp.refl o) ?_
        rw [List.append_nil]
        exact Rp.tup h1 r1
      · obtain ⟨s, z⟩ := put_tup o f np ((r1.append r2))
        exact q _ _ _ rfl s z
/-! ### tests -/
theorem etn_test {Pa : Da → Prop} {Pb : Bool → Prop} (h : Ev K r te ds Pa) (k : ∀ w, Pa w → ∃ b, w = .d (.bool b) ∧ Pb b) : EvT K r (tTest te) ds Pb := fun F σ H o f s Q q => by
  refine h F σ H o f s _ fun v H1 w p s1 rx => ?_
  obtain ⟨b, e, pb⟩ := k w p
  subst e
  cases rx
  exact ⟨b, rfl, q b H1 pb s1⟩
theorem etn_B {Pa : Da → Prop} {Pb : Bool → Prop} (h : Ev K r te ds Pa) (k : ∀ w, Pa w → ∃ b, w = .d (.bool b) ∧ Pb b) : EvT K r (tB te) ds Pb := fun F σ H o f s Q q => by
  refine h F σ H o f s _ fun v H1 w p s1 rx => ?_
  obtain ⟨b, e, pb⟩ := k w p
  subst e
  cases rx
  exact ⟨b, rfl, q b H1 pb s1⟩
theorem et_test (h : Ev K r te ds (Is (.d (.bool b)))) : EvT K r (tTest te) ds (IsB b) := etn_test h fun w e => ⟨b, e, rfl⟩
theorem et_B (h : Ev K r te ds (Is (.d (.bool b)))) : EvT K r (tB te) ds (IsB b) := etn_B h fun w e => ⟨b, e, rfl⟩
theorem et_and (h : EvT K r tt ds (IsB a)) (k : a = true → EvT K r tu ds (IsB b)) : EvT K r (tAnd tt tu) ds (IsB (a && b)) := fun F σ H o f s Q q => by
  refine h F σ H o f s _ fun c H1 e s1 => ?_
  subst e
  cases c with
  | true => exact (k rfl) F σ H1 s1.on (s1.fok f) (s.same s1.same) Q fun d H2 e2 s2 => q d H2 e2 (s1.trans s2)
  | false => exact q false H1 rfl s1
theorem et_or (h : EvT K r tt ds (IsB a)) (k : a = false → EvT K r tu ds (IsB b)) : EvT K r (tOr tt tu) ds (IsB (a || b)) := fun F σ H o f s Q q => by
  refine h F σ H o f s _ fun c H1 e s1 => ?_
  subst e
  cases c with
  | true => exact q true H1 rfl s1
  | false => exact (k rfl) F σ H1 s1.on (s1.fok f) (s.same s1.same) Q fun d H2 e2 s2 => q d H2 e2 (s1.trans s2)
theorem et_not (h : EvT K r tt ds (IsB a)) : EvT K r (tNot tt) ds (IsB (!a)) := fun F σ H o f s Q q => by
  refine h F σ H o f s _ fun c H1 e s1 => ?_
  subst e
  exact q _ H1 rfl s1
/-- a test with any answers, then another -/
theorem etn_and {Pa Pb : Bool → Prop} {Pc : Bool → Prop} (h : EvT K r tt ds Pa) (k : Pa true → EvT K r tu ds Pc) (k0 : Pa false → Pc false) : EvT K r (tAnd tt tu) ds Pc := fun F σ H o f s Q q => by
  refine h F σ H o f s _ fun c H1 e s1 => ?_
  cases c with
  | true => exact (k e) F σ H1 s1.on (s1.fok f) (s.same s1.same) Q fun d H2 e2 s2 => q d H2 e2 (s1.trans s2)
  | false => exact q false H1 (k0 e) s1
theorem etn_or {Pa Pc : Bool → Prop} (h : EvT K r tt ds Pa) (k : Pa false → EvT K r tu ds Pc) (k0 : Pa true → Pc true) : EvT K r (tOr tt tu) ds Pc := fun F σ H o f s Q q => by
  refine h F σ H o f s _ fun c H1 e s1 => ?_
  cases c with
  | true => exact q true H1 (k0 e) s1
  | false => exact (k e) F σ H1 s1.on (s1.fok f) (s.same s1.same) Q fun d H2 e2 s2 => q d H2 e2 (s1.trans s2)
theorem etn_not {Pa Pc : Bool → Prop} (h : EvT K r tt ds Pa) (k : ∀ b, Pa b → Pc (!b)) : EvT K r (tNot tt) ds Pc := fun F σ H o f s Q q =>
  h F σ H o f s _ fun c H1 e s1 => q _ H1 (k c e) s1
/-! ### and, or, not, if as values -/
theorem ev_and (h : Ev K r ta ds (Is (.d (.bool a)))) (k : a = true → Ev K r tb ds (Is (.d (.bool b)))) : Ev K r (tAndV ta tb) ds (Is (.d (.bool (a && b)))) := fun F σ H o f s Q q => by
  refine h F σ H o f s _ fun v H1 w e s1 rx => ?_
  subst e
  cases rx
  refine ⟨a, rfl, ?_⟩
  cases a with
  | true => exact (k rfl) F σ H1 s1.on (s1.fok f) (s.same s1.same) Q fun v2 H2 w2 e2 s2 => q v2 H2 w2 e2 (s1.trans s2)
  | false => exact q _ H1 _ rfl s1 (Rp.bl _)
theorem ev_or (h : Ev K r ta ds (Is (.d (.bool a)))) (k : a = false → Ev K r tb ds (Is (.d (.bool b)))) : Ev K r (tOrV ta tb) ds (Is (.d (.bool (a || b)))) := fun F σ H o f s Q q => by
  refine h F σ H o f s _ fun v H1 w e s1 rx => ?_
  subst e
  cases rx
  refine ⟨a, rfl, ?_⟩
  cases a with
  | true => exact q _ H1 _ rfl s1 (Rp.bl _)
  | false => exact (k rfl) F σ H1 s1.on (s1.fok f) (s.same s1.same) Q fun v2 H2 w2 e2 s2 => q v2 H2 w2 e2 (s1.trans s2)
theorem ev_not (h : Ev K r ta ds (Is (.d (.bool a)))) : Ev K r (tNotV ta) ds (Is (.d (.bool (!a)))) := fun F σ H o f s Q q => by
  refine h F σ H o f s _ fun v H1 w e s1 rx => ?_
  subst e
  cases rx
  exact ⟨a, rfl, q _ H1 _ rfl s1 (Rp.bl _)⟩
theorem evn_if {Pb : Bool → Prop} (h : EvT K r tt ds Pb) (k1 : Pb true → Ev K r ta ds P) (k2 : Pb false → Ev K r tb ds P) : Ev K r (tIf tt ta tb) ds P := fun F σ H o f s Q q => by
  refine h F σ H o f s _ fun c H1 e s1 => ?_
  cases c with
  | true => exact (k1 e) F σ H1 s1.on (s1.fok f) (s.same s1.same) Q fun v2 H2 w2 e2 s2 => q v2 H2 w2 e2 (s1.trans s2)
  | false => exact (k2 e) F σ H1 s1.on (s1.fok f) (s.same s1.same) Q fun v2 H2 w2 e2 s2 => q v2 H2 w2 e2 (s1.trans s2)
theorem ev_if {w1 w2 : Da} (h : EvT K r tt ds (IsB a)) (k1 : a = true → Ev K r ta ds (Is w1)) (k2 : a = false → Ev K r tb ds (Is w2)) : Ev K r (tIf tt ta tb) ds (Is (if a = true then w1 else w2)) :=
  evn_if h (fun e => by rw [if_pos e.symm]; exact k1 e.symm) fun e => by
    rw [if_neg (by rw [← e]; exact Bool.false_ne_true)]
    exact k2 e.symm
/-- a < b < c -/
theorem ev_chain {R R' : R2} {u v w : Da} (ha : Ev K r ta ds (Is u)) (hb : Ev K r tb ds (Is v)) (h1 : RV K r R u v (Is (.d (.bool a)))) (hc : a = true → Ev K r tc ds (Is w)) (h2 : a = true → RV K r R' v w (Is (.d (.bool b)))) :
    Ev K r (tChain R R' ta tb tc) ds (Is (.d (.bool (a && b)))) := fun F σ H o f s Q q => by
  refine ha F σ H o f s _ fun v1 H1 _ e1 s1 x1 => ?_
  subst e1
  refine hb F σ H1 s1.on (s1.fok f) (s.same s1.same) _ fun v2 H2 _ e2 s2 x2 => ?_
  subst e2
  have f2 := s2.fok (s1.fok f)
  refine h1 F H2 v1 v2 s2.on f2 (x1.same s2.same) x2 _ fun z H3 _ e3 s3 x3 => ?_
  subst e3
  cases x3
  refine ⟨a, rfl, ?_⟩
  have s123 := (s1.trans s2).trans s3
  cases a with
  | true =>
    refine (hc rfl) F σ H3 s3.on (s3.fok f2) (s.same s123.same) _ fun v4 H4 _ e4 s4 x4 => ?_
    subst e4
    exact (h2 rfl) F H4 v2 v4 s4.on (s4.fok (s3.fok f2)) (x2.same (s3.trans s4).same) x4 Q fun z5 H5 w5 e5 s5 x5 => q z5 H5 w5 e5 ((s123.trans s4).trans s5) x5
  | false => exact q _ H3 _ rfl s123 (Rp.bl _)
/-! ### slices -/
theorem eo_none : EvO K r tNoPart ds none := fun F σ H o f s Q q => q H (Stp.refl o)
theorem eo_some (h : Ev K r te ds (Is (.d (.int i)))) : EvO K r (tPart te) ds (some i) := fun F σ H o f s Q q => by
  refine h F σ H o f s _ fun v H1 w e s1 x1 => ?_
  subst e
  cases x1
  exact ⟨i, rfl, q H1 s1⟩
theorem ev_sl {R : V → Option Int → Option Int → Hp → VK → Prop} {tl th : TO} {w : Da} {lo hi : Option Int} (h : Ev K r te ds (Is w)) (hl : EvO K r tl ds lo) (hh : EvO K r th ds hi) (k : RS K r R w lo hi P) : Ev K r (L2.tSl R te tl th) ds P := fun F σ H o f s Q q => by
  refine h F σ H o f s _ fun v H1 _ e s1 x1 => ?_
  subst e
  refine hl F σ H1 s1.on (s1.fok f) (s.same s1.same) _ fun H2 s2 => ?_
  have s12 := s1.trans s2
  refine hh F σ H2 s2.on (s12.fok f) (s.same s12.same) _ fun H3 s3 => ?_
  exact k F H3 v s3.on ((s12.trans s3).fok f) (x1.same (s2.trans s3).same) Q fun u H4 z pz s4 x4 => q u H4 z pz ((s12.trans s3).trans s4) x4
def cutP (xs : List PyData) (lo hi : Option Int) : List PyData := (xs.drop (HT.sIx xs.length 0 lo)).take (HT.sIx xs.length xs.length hi - HT.sIx xs.length 0 lo)
theorem cut_rp {H : Hp} {vs : List V} (ra : RpAll K H vs xs) (lo hi : Option Int) : RpAll K H (cutV vs lo hi) (cutP xs lo hi) := by
  unfold cutV cutP
  rw [ra.length]
  exact (ra.drop _).take _
theorem rs_list {lo hi : Option Int} (hK : K' = K := by rfl) : RS K r (rSlL K') (.d (.list xs)) lo hi (Is (.d (.list (cutP xs lo hi)))) := fun F H v o f hv Q q => by
  subst hK
  cases hv with
  | lst h1 r1 =>
    refine ⟨_, _, rfl, SqL.of (hide_of h1).2, fun p np => ?_⟩
    obtain ⟨s, z⟩ := put_lst o f np ((cut_rp r1 lo hi))
    exact q _ _ _ rfl s z
theorem sIx_whole {n : Nat} {lo hi : Option Int} (h : HT.sIx n 0 lo = 0 ∧ HT.sIx n n hi = n) {l : List PyData} (e : l.length = n) : cutP l lo hi = l := by
  unfold cutP
  rw [e, h.1, h.2, Nat.sub_zero, List.drop_zero, ← e, List.take_length]
theorem rs_tup {lo hi : Option Int} (hK : K' = K := by rfl) : RS K r (rSlA K') (.d (.tuple xs)) lo hi (Is (.d (.tuple (cutP xs lo hi)))) := fun F H v o f hv Q q => by
  subst hK
  cases hv with
  | tup h1 r1 =>
    refine ⟨_, _, rfl, Same.sqt hide_same h1, fun w => ?_, fun w p np => ?_⟩
    · rw [r1.length] at w
      refine q _ H _ rfl (Stp.refl o) ?_
      rw [sIx_whole w rfl]
      exact Rp.tup h1 r1
    · obtain ⟨s, z⟩ := put_tup o f np ((cut_rp r1 lo hi))
      exact q _ _ _ rfl s z
theorem rs_str {lo hi : Option Int} (h : x.length ≤ 100000) : RS K r C8.rSlX (.d (.str x)) lo hi (Is (.d (.str (Txt.slice x lo hi)))) := fun F H v o f hv Q q => by
  cases hv
  exact ⟨x, rfl, Nat.le_trans h (by decide), q _ H _ rfl (Stp.refl o) (Rp.str _)⟩
theorem ev_revL {w : List PyData} (h : Ev K r te ds (Is (.d (.list w)))) (hK : K' = K := by rfl) : Ev K r (tRevL K' te) ds (Is (.d (.list w.reverse))) := fun F σ H o f s Q q => by
  subst hK
  refine h F σ H o f s _ fun v H1 _ e s1 x1 => ?_
  subst e
  cases x1 with
  | lst h1 r1 =>
    refine ⟨_, _, rfl, SqL.of (hide_of h1).2, fun p np => ?_⟩
    obtain ⟨s2, z⟩ := put_lst s1.on (s1.fok f) np r1.rev
    exact q _ _ _ rfl (s1.trans s2) z
/-! ### built-ins by name -/
theorem evn_cb {R : List V → Hp → VK → Prop} {t : TA} {Pa : List Da → Prop} (ha : EvA K r t ds Pa) (k : ∀ ws, Pa ws → RC K r R ws P) : Ev K r (tCB R t) ds P := fun F σ H o f s Q q => by
  refine ha F σ H o f s _ fun vs H1 ws e s1 x1 => ?_
  exact k ws e F H1 vs s1.on (s1.fok f) x1 Q fun u H2 z pz s2 x2 => q u H2 z pz (s1.trans s2) x2
theorem ev_cb {R : List V → Hp → VK → Prop} {t : TA} {ws : List Da} (ha : EvA K r t ds (IsA ws)) (k : RC K r R ws P) : Ev K r (tCB R t) ds P :=
  evn_cb ha fun ws' e => by subst e; exact k
theorem x1 {H : Hp} {vs : List V} {w : Da} (h : RpXs K H vs [w]) : ∃ v, vs = [v] ∧ RpX K H v w := by
  cases h with
  | cons a b =>
    cases b
    exact ⟨_, rfl, a⟩
theorem x2 {H : Hp} {vs : List V} {w u : Da} (h : RpXs K H vs [w, u]) : ∃ v z, vs = [v, z] ∧ RpX K H v w ∧ RpX K H z u := by
  cases h with
  | cons a b =>
    obtain ⟨z, e, c⟩ := x1 b
    subst e
    exact ⟨_, _, rfl, a, c⟩
def rLenQ (K : PySem.W.Frag) : List V → Hp → VK → Prop := fun xs H Q => ∃ p ys, xs = [.ref p] ∧ (SqL K H p ys ∨ SqT K H p ys) ∧ Q (.int ys.length) H
theorem rc_lenT (hK : K' = K := by rfl) : RC K r (fun xs H Q => ∃ p ys, xs = [.ref p] ∧ (SqL K' H p ys ∨ SqT K' H p ys) ∧ Q (.int ys.length) H) [.d (.tuple xs)] (Is (.d (.int xs.length))) := fun F H vs o f hv Q q => by
  subst hK
  obtain ⟨v, rfl, hz⟩ := x1 hv
  cases hz with
  | tup h1 r1 => exact ⟨_, _, rfl, .inr (Same.sqt hide_same h1), q _ H _ rfl (Stp.refl o) (by rw [r1.length]; exact Rp.int _)⟩
theorem rc_lenL (hK : K' = K := by rfl) : RC K r (fun xs H Q => ∃ p ys, xs = [.ref p] ∧ (SqL K' H p ys ∨ SqT K' H p ys) ∧ Q (.int ys.length) H) [.d (.list xs)] (Is (.d (.int xs.length))) := fun F H vs o f hv Q q => by
  subst hK
  obtain ⟨v, rfl, hz⟩ := x1 hv
  cases hz with
  | lst h1 r1 => exact ⟨_, _, rfl, .inl (SqL.of (hide_of h1).2), q _ H _ rfl (Stp.refl o) (by rw [r1.length]; exact Rp.int _)⟩
theorem rc_lenS (h : x.length ≤ 100000) : RC K r (fun xs H Q => ∃ z, xs = [.str z] ∧ z.length ≤ sizeLine ∧ Q (.int z.length) H) [.d (.str x)] (Is (.d (.int x.length))) := fun F H vs o f hv Q q => by
  obtain ⟨v, rfl, hz⟩ := x1 hv
  cases hz
  exact ⟨x, rfl, Nat.le_trans h (by decide), q _ H _ rfl (Stp.refl o) (Rp.int _)⟩
theorem rc_max : RC K r (fun xs H Q => ∃ i j, xs = [.int i, .int j] ∧ Q (.int (if j > i then j else i)) H) [.d (.int i), .d (.int j)] (Is (.d (.int (if j > i then j else i)))) := fun F H vs o f hv Q q => by
  obtain ⟨v, z, rfl, h1, h2⟩ := x2 hv
  cases h1; cases h2
  exact ⟨i, j, rfl, q _ H _ rfl (Stp.refl o) (Rp.int _)⟩
theorem rc_min : RC K r (fun xs H Q => ∃ i j, xs = [.int i, .int j] ∧ Q (.int (if j < i then j else i)) H) [.d (.int i), .d (.int j)] (Is (.d (.int (if j < i then j else i)))) := fun F H vs o f hv Q q => by
  obtain ⟨v, z, rfl, h1, h2⟩ := x2 hv
  cases h1; cases h2
  exact ⟨i, j, rfl, q _ H _ rfl (Stp.refl o) (Rp.int _)⟩
theorem rc_list (hK : K' = K := by rfl) : RC K r (fun xs H Q => ∃ p ys, xs = [.ref p] ∧ (SqL K' H p ys ∨ SqT K' H p ys) ∧ ∀ l, H l = none → Q (.ref l) (upd H l (.lst ys))) [.d (.list xs)] (Is (.d (.list xs))) := fun F H vs o f hv Q q => by
  subst hK
  obtain ⟨v, rfl, hz⟩ := x1 hv
  cases hz with
  | lst h1 r1 =>
    refine ⟨_, _, rfl, .inl (SqL.of (hide_of h1).2), fun p np => ?_⟩
    obtain ⟨s, z⟩ := put_lst o f np r1
    exact q _ _ _ rfl s z
theorem rc_listT (hK : K' = K := by rfl) : RC K r (fun xs H Q => ∃ p ys, xs = [.ref p] ∧ (SqL K' H p ys ∨ SqT K' H p ys) ∧ ∀ l, H l = none → Q (.ref l) (upd H l (.lst ys))) [.d (.tuple xs)] (Is (.d (.list xs))) := fun F H vs o f hv Q q => by
  subst hK
  obtain ⟨v, rfl, hz⟩ := x1 hv
  cases hz with
  | tup h1 r1 =>
    refine ⟨_, _, rfl, .inr (Same.sqt hide_same h1), fun p np => ?_⟩
    obtain ⟨s, z⟩ := put_lst o f np r1
    exact q _ _ _ rfl s z
theorem rc_tupL (hK : K' = K := by rfl) : RC K r (fun xs H Q => ∃ p ys, xs = [.ref p] ∧ ((SqL K' H p ys ∧ ∀ l, H l = none → Q (.ref l) (upd H l (.tup ys))) ∨ (SqT K' H p ys ∧ Q (.ref p) H))) [.d (.list xs)] (Is (.d (.tuple xs))) := fun F H vs o f hv Q q => by
  subst hK
  obtain ⟨v, rfl, hz⟩ := x1 hv
  cases hz with
  | lst h1 r1 =>
    refine ⟨_, _, rfl, .inl ⟨SqL.of (hide_of h1).2, fun p np => ?_⟩⟩
    obtain ⟨s, z⟩ := put_tup o f np r1
    exact q _ _ _ rfl s z
theorem rc_all {bs : List Bool} (hK : K' = K := by rfl) : RC K r (rAll K') [.d (.list (bs.map PyData.bool))] (Is (.d (.bool (bs.all id)))) := fun F H vs o f hv Q q => by
  subst hK
  obtain ⟨v, rfl, hz⟩ := x1 hv
  cases hz with
  | lst h1 r1 =>
    have e := r1.bools
    subst e
    exact ⟨_, bs, rfl, SqL.of (hide_of h1).2, q _ H _ rfl (Stp.refl o) (Rp.bl _)⟩
/-! ### isinstance -/
def tyN : PyData → String
  | .none => "NoneType"
  | .bool _ => "bool"
  | .int _ => "int"
  | .str _ => "str"
  | .list _ => "list"
  | .tuple _ => "tuple"
  | .dict _ => "dict"
theorem tyX {H : Hp} {v : V} (h : Rp K H v d) : TyX K H v (.type (tyN d)) := by
  cases h with
  | non => exact .base .non
  | bl b => exact .base (.bl b)
  | int i => exact .base (.int i)
  | str x => exact .base (.str x)
  | lst h1 => exact .base (.lst h1)
  | tup h1 =>
    rcases h1 with (h1 | ⟨o, h1⟩) | ⟨o, its, n, h1, h2, _⟩
    · exact .base (.tup h1)
    · exact .fTuple h1
    · exact .kTuple h1 h2
theorem rc_isi {T : String} (h : kitB (tyN d) T = some b) (hK : K' = K := by rfl) : RC K r (rIsi K') [.d d, .v (.ty T)] (Is (.d (.bool b))) := fun F H vs o f hv Q q => by
  subst hK
  obtain ⟨v, z, rfl, h1, h2⟩ := x2 hv
  obtain rfl : z = V.ty T := h2
  exact ⟨v, .ty T, _, _, b, rfl, .ty T, tyX (Rp.same hide_same h1), kit_ty h, q _ H _ rfl (Stp.refl o) (Rp.bl _)⟩
def isTup : PyData → Bool
  | .tuple _ => true
  | _ => false
def isStr : PyData → Bool
  | .str _ => true
  | _ => false
def isInt : PyData → Bool
  | .int _ => true
  | .bool _ => true
  | _ => false
def isBool : PyData → Bool
  | .bool _ => true
  | _ => false
theorem kit_tup : ∀ d : PyData, kitB (tyN d) "tuple" = some (isTup d)
  | .none => by decide +kernel
  | .bool _ => (by decide +kernel : kitB "bool" "tuple" = some false)
  | .int _ => (by decide +kernel : kitB "int" "tuple" = some false)
  | .str _ => (by decide +kernel : kitB "str" "tuple" = some false)
  | .list _ => (by decide +kernel : kitB "list" "tuple" = some false)
  | .tuple _ => (by decide +kernel : kitB "tuple" "tuple" = some true)
  | .dict _ => (by decide +kernel : kitB "dict" "tuple" = some false)
theorem kit_str : ∀ d : PyData, kitB (tyN d) "str" = some (isStr d)
  | .none => by decide +kernel
  | .bool _ => (by decide +kernel : kitB "bool" "str" = some false)
  | .int _ => (by decide +kernel : kitB "int" "str" = some false)
  | .str _ => (by decide +kernel : kitB "str" "str" = some true)
  | .list _ => (by decide +kernel : kitB "list" "str" = some false)
  | .tuple _ => (by decide +kernel : kitB "tuple" "str" = some false)
  | .dict _ => (by decide +kernel : kitB "dict" "str" = some false)
theorem kit_int : ∀ d : PyData, kitB (tyN d) "int" = some (isInt d)
  | .none => by decide +kernel
  | .bool _ => (by decide +kernel : kitB "bool" "int" = some true)
  | .int _ => (by decide +kernel : kitB "int" "int" = some true)
  | .str _ => (by decide +kernel : kitB "str" "int" = some false)
  | .list _ => (by decide +kernel : kitB "list" "int" = some false)
  | .tuple _ => (by decide +kernel : kitB "tuple" "int" = some false)
  | .dict _ => (by decide +kernel : kitB "dict" "int" = some false)
theorem kit_bool : ∀ d : PyData, kitB (tyN d) "bool" = some (isBool d)
  | .none => by decide +kernel
  | .bool _ => (by decide +kernel : kitB "bool" "bool" = some true)
  | .int _ => (by decide +kernel : kitB "int" "bool" = some false)
  | .str _ => (by decide +kernel : kitB "str" "bool" = some false)
  | .list _ => (by decide +kernel : kitB "list" "bool" = some false)
  | .tuple _ => (by decide +kernel : kitB "tuple" "bool" = some false)
  | .dict _ => (by decide +kernel : kitB "dict" "bool" = some false)
/-! ### methods of texts -/
theorem ev_m0 {R : V → List V → Hp → VK → Prop} (h : Ev K r te ds (Is (.d (.str x)))) (k : RM K r R (.d (.str x)) [] P) : Ev K r (tM0 R te) ds P := fun F σ H o f s Q q => by
  refine h F σ H o f s _ fun v H1 _ e s1 x1 => ?_
  subst e
  have x1' := x1
  cases x1
  exact ⟨⟨x, rfl⟩, k F H1 _ [] s1.on (s1.fok f) x1' .nil Q fun u H2 z pz s2 r2 => q u H2 z pz (s1.trans s2) r2⟩
theorem evn_m1 {R : V → List V → Hp → VK → Prop} {Pb : Da → Prop} (h : Ev K r te ds (Is (.d (.str x)))) (hb : Ev K r tb ds Pb) (k : ∀ w, Pb w → RM K r R (.d (.str x)) [w] P) : Ev K r (tM1 R te tb) ds P := fun F σ H o f s Q q => by
  refine h F σ H o f s _ fun v H1 _ e s1 x1 => ?_
  subst e
  have x1' := x1
  cases x1
  refine ⟨⟨x, rfl⟩, ?_⟩
  refine hb F σ H1 s1.on (s1.fok f) (s.same s1.same) _ fun v2 H2 w2 e2 s2 x2 => ?_
  exact k w2 e2 F H2 _ [v2] s2.on (s2.fok (s1.fok f)) (x1'.same s2.same) (.cons x2 .nil) Q fun u H3 z pz s3 r3 => q u H3 z pz ((s1.trans s2).trans s3) r3
theorem rm_lower (h : x.length ≤ 100000) : RM K r (fun x xs H Q => ∃ a, x = .str a ∧ xs = [] ∧ a.length ≤ 5592405 ∧ Q (.str (Txt.lower a)) H) (.d (.str x)) [] (Is (.d (.str (Txt.lower x)))) := fun F H v vs o f hv hw Q q => by
  cases hv
  cases hw
  exact ⟨x, rfl, rfl, by omega, q _ H _ rfl (Stp.refl o) (Rp.str _)⟩
theorem rm_upper (h : x.length ≤ 100000) : RM K r (fun x xs H Q => ∃ a, x = .str a ∧ xs = [] ∧ a.length ≤ 5592405 ∧ Q (.str (Txt.upper a)) H) (.d (.str x)) [] (Is (.d (.str (Txt.upper x)))) := fun F H v vs o f hv hw Q q => by
  cases hv
  cases hw
  exact ⟨x, rfl, rfl, by omega, q _ H _ rfl (Stp.refl o) (Rp.str _)⟩
theorem rm_join {zs : List Str} (h : (zs.map (·.length)).sum + zs.length * x.length ≤ 16777216) (hK : K' = K := by rfl) : RM K r (fun x xs H Q => ∃ a p, ∃ ys : List Str, x = .str a ∧ xs = [.ref p] ∧ (SqL K' H p (ys.map V.str) ∨ SqT K' H p (ys.map V.str)) ∧ (ys.map (·.length)).sum + ys.length * a.length ≤ 16777216 ∧ Q (.str (Txt.join a ys)) H)
    (.d (.str x)) [.d (.list (zs.map PyData.str))] (Is (.d (.str (Txt.join x zs)))) := fun F H v vs o f hv hw Q q => by
  subst hK
  cases hv
  obtain ⟨v, rfl, hz⟩ := x1 hw
  cases hz with
  | lst h1 r1 =>
    have e := r1.strs
    subst e
    exact ⟨x, _, zs, rfl, rfl, .inl (SqL.of (hide_of h1).2), h, q _ H _ rfl (Stp.refl o) (Rp.str _)⟩
end
end Kn

set_option Elab.async false
set_option linter.all false
set_option maxRecDepth 100000
set_option maxHeartbeats 4000000
/-! Promises, calls, targets, sources, comprehensions, statements over data. -/
namespace Kn
open PySem PySem.Spec PyProof.Rows L2
/-! ### promises -/
def spG (K : PySem.W.Frag) {α : Type} (ar : α → Res → List Da) (pre : α → Res → Prop) (post : α → Da → Prop) : Sp := fun vs H Q _ =>
  ∃ (a : α) (F : List Addr) (r : Res), On r H ∧ FOk F r H ∧ RpXs K (hide (hid F r) H) vs (ar a r) ∧ pre a r ∧ ∀ v H2 w, post a w → Stp r H H2 → RpX K (hide (hid F r) H2) v w → Q v H2
/-- of a def that hands back one thing -/
abbrev spP (K : PySem.W.Frag) {α : Type} (ar : α → List Da) (pre : α → Prop) (res : α → Da) : Sp := spG K (fun a _ => ar a) (fun a _ => pre a) fun a => Is (res a)
/-- of a def that draws from the bag, its first argument -/
abbrev spB (K : PySem.W.Frag) {α : Type} (ar : α → List Da) (pre : α → Prop) (post : α → Da → Prop) : Sp := spG K (fun a r => .v (.ref (r.getD 0)) :: ar a) (fun a r => r.isSome = true ∧ pre a) post
section
variable {K K' : PySem.W.Frag} {r : Res} {ds : Sl} {P : Da → Prop} {ta tb tc te : TE} {tt tu : TT}
theorem evn_call {α : Type} {ar : α → Res → List Da} {pre : α → Res → Prop} {post : α → Da → Prop} {E : XK} {t : TA} {Pa : List Da → Prop} (ha : EvA K r t ds Pa) (k : ∀ ws, Pa ws → ∃ a, ws = ar a r ∧ pre a r ∧ ∀ w, post a w → P w) :
    Ev K r (tCall (spG K ar pre post) [] E t) ds P := fun F σ H o f s Q q => by
  refine ha F σ H o f s _ fun vs H1 ws pw s1 rx => ?_
  obtain ⟨a, e, pr, po⟩ := k ws pw
  subst e
  show spG K ar pre post (vs ++ []) H1 Q E
  rw [List.append_nil]
  exact ⟨a, F, r, s1.on, s1.fok f, rx, pr, fun v H2 w pw2 s2 r2 => q v H2 w (po w pw2) (s1.trans s2) r2⟩
/-- a pure def's answer -/
theorem ev_call {α : Type} {ar : α → List Da} {pre : α → Prop} {res : α → Da} {E : XK} {t : TA} {ws : List Da} (a : α) (ha : EvA K r t ds (IsA ws)) (e : ws = ar a) (p : pre a) : Ev K r (tCall (spP K ar pre res) [] E t) ds (Is (res a)) :=
  evn_call ha fun ws' e' => ⟨a, by rw [e', e], p, fun w h => h⟩
/-- a drawing def's answers -/
theorem ev_callB {α : Type} {ar : α → List Da} {pre : α → Prop} {post : α → Da → Prop} {E : XK} {t : TA} {ws : List Da} (a : α) (ha : EvA K r t ds (IsA ws)) (e : ws = .v (.ref (r.getD 0)) :: ar a) (h : r.isSome = true) (p : pre a) :
    Ev K r (tCall (spB K ar pre post) [] E t) ds (post a) :=
  evn_call ha fun ws' e' => ⟨a, by rw [e', e], ⟨h, p⟩, fun w h => h⟩
/-! ### targets -/
structure Agree (vs : List Nat) (σ σ' : L2.St) : Prop where
  len : σ'.length = σ.length
  at_ : ∀ j, j ∉ vs → σ'[j]? = σ[j]?
theorem Agree.refl {vs : List Nat} {σ : L2.St} : Agree vs σ σ := ⟨rfl, fun _ _ => rfl⟩
theorem Agree.trans {vs : List Nat} {σ σ1 σ2 : L2.St} (a : Agree vs σ σ1) (b : Agree vs σ1 σ2) : Agree vs σ σ2 := ⟨b.len.trans a.len, fun j h => (b.at_ j h).trans (a.at_ j h)⟩
def EvG (K : PySem.W.Frag) (r : Res) (g : TG) (vs : List Nat) (ds : Sl) (w : Da) (ds' : Sl) : Prop := ∀ (F : List Addr) (σ : L2.St) (H : Hp) (v : V), On r H → FOk F r H → SEnv K (hide (hid F r) H) σ ds → RpX K (hide (hid F r) H) v w →
  ∀ Q : L2.St → Hp → Prop, (∀ σ' H', Stp r H H' → SEnv K (hide (hid F r) H') σ' ds' → Agree vs σ σ' → Q σ' H') → g v σ H Q
def EvGs (K : PySem.W.Frag) (r : Res) (g : TGs) (vs : List Nat) (ds : Sl) (ws : List Da) (ds' : Sl) : Prop := ∀ (F : List Addr) (σ : L2.St) (H : Hp) (xs : List V), On r H → FOk F r H → SEnv K (hide (hid F r) H) σ ds → RpXs K (hide (hid F r) H) xs ws →
  ∀ Q : L2.St → Hp → Prop, (∀ σ' H', Stp r H H' → SEnv K (hide (hid F r) H') σ' ds' → Agree vs σ σ' → Q σ' H') → g xs σ H Q
theorem eg_name {i : Nat} {vs : List Nat} {w : Da} (hi : i ∈ vs) : EvG K r (gName i) vs ds w (ds.set i (some w)) := fun F σ H v o f s hv Q q =>
  q _ H (Stp.refl o) (s.set i hv) ⟨List.length_set, fun j h => List.getElem?_set_ne fun e => h (by rw [← e]; exact hi)⟩
theorem egs_nil {vs : List Nat} : EvGs K r gNil vs ds [] ds := fun F σ H xs o f s hv Q q => by
  cases hv
  exact ⟨rfl, q σ H (Stp.refl o) s .refl⟩
theorem egs_cons {t : TG} {u : TGs} {vs : List Nat} {w : Da} {ws : List Da} {ds1 ds2 : Sl} (h1 : EvG K r t vs ds w ds1) (h2 : EvGs K r u vs ds1 ws ds2) : EvGs K r (gCons t u) vs ds (w :: ws) ds2 := fun F σ H xs o f s hv Q q => by
  cases hv with
  | cons a b =>
    refine ⟨_, _, rfl, ?_⟩
    refine h1 F σ H _ o f s a _ fun σ1 H1 s1 e1 g1 => ?_
    exact h2 F σ1 H1 _ s1.on (s1.fok f) e1 (b.same s1.same) Q fun σ2 H2 s2 e2 g2 => q σ2 H2 (s1.trans s2) e2 (g1.trans g2)
theorem eg_tup {t : TGs} {n : Nat} {vs : List Nat} {xs : List PyData} {ds' : Sl} (h : EvGs K r t vs ds (xs.map Da.d) ds') (hn : xs.length = n) (hK : K' = K := by rfl) : EvG K r (gTup K' n t) vs ds (.d (.tuple xs)) ds' := fun F σ H v o f s hv Q q => by
  subst hK
  cases hv with
  | tup h1 r1 => exact ⟨_, _, rfl, Same.sqt hide_same h1, by rw [r1.length]; exact hn, h F σ H _ o f s r1.xs Q q⟩
/-! ### what is walked -/
/-- at every heap that keeps what is in sight the i-th turn gives the i-th thing -/
def WalkJ (K : PySem.W.Frag) (r : Res) (F : List Addr) (J : It) (xs : List PyData) (H1 : Hp) : Prop := ∀ (i : Nat) (H2 : Hp), Same (hide (hid F r) H1) (hide (hid F r) H2) →
  (∀ d, xs[i]? = some d → J.go i H2 ∧ ∀ x H3, J.yld i H2 x H3 → H3 = H2 ∧ Rp K (hide (hid F r) H1) x d) ∧ (xs.length ≤ i → J.stop i H2)
def EvI (K : PySem.W.Frag) (r : Res) (wi : TI) (ds : Sl) (xs : List PyData) : Prop := ∀ (F : List Addr) (σ : L2.St) (H : Hp), On r H → FOk F r H → SEnv K (hide (hid F r) H) σ ds →
  ∀ R : It → Hp → Prop, (∀ J H1, Stp r H H1 → WalkJ K r F J xs H1 → R J H1) → wi σ H R
theorem ei_list {xs : List PyData} (h : Ev K r te ds (Is (.d (.list xs)))) (hK : K' = K := by rfl) : EvI K r (iList K' te) ds xs := fun F σ H o f s R q => by
  subst hK
  refine h F σ H o f s _ fun v H1 _ e s1 x1 => ?_
  subst e
  cases x1 with
  | lst h1 r1 =>
    refine ⟨_, rfl, ⟨_, SqL.of (hide_of h1).2⟩, q _ H1 s1 fun i H2 sm => ?_⟩
    have h2 := (hide_of (sm _ _ h1)).2
    refine ⟨fun d e => ?_, fun l => ⟨_, SqL.of h2, by rw [r1.length]; exact l⟩⟩
    obtain ⟨u, e1, e2⟩ := r1.get e
    refine ⟨⟨_, u, SqL.of h2, e1⟩, fun x H3 y => ?_⟩
    obtain ⟨rfl, y⟩ := y
    have e3 := y _ (SqL.of h2)
    rw [e1] at e3
    cases e3
    exact ⟨rfl, e2⟩
theorem ei_tup {xs : List PyData} (h : Ev K r te ds (Is (.d (.tuple xs)))) (hK : K' = K := by rfl) : EvI K r (iTup K' te) ds xs := fun F σ H o f s R q => by
  subst hK
  refine h F σ H o f s _ fun v H1 _ e s1 x1 => ?_
  subst e
  cases x1 with
  | tup h1 r1 =>
    refine ⟨_, rfl, ⟨_, Same.sqt hide_same h1⟩, q _ H1 s1 fun i H2 sm => ?_⟩
    have h2 := Same.sqt (hide_same (F := hid F r)) (Same.sqt sm h1)
    refine ⟨fun d e => ?_, fun l => ⟨_, h2, by rw [r1.length]; exact l⟩⟩
    obtain ⟨u, e1, e2⟩ := r1.get e
    refine ⟨⟨_, u, h2, e1⟩, fun x H3 y => ?_⟩
    obtain ⟨rfl, y⟩ := y
    have e3 := y _ h2
    rw [e1] at e3
    cases e3
    exact ⟨rfl, e2⟩
/-- a text's signs -/
def signsP (x : Str) : List PyData := x.cps.toList.map fun c => .str ⟨#[c]⟩
theorem ei_str {x : Str} (h : Ev K r te ds (Is (.d (.str x)))) : EvI K r (iStr te) ds (signsP x) := fun F σ H o f s R q => by
  refine h F σ H o f s _ fun v H1 _ e s1 x1 => ?_
  subst e
  cases x1
  refine ⟨x, rfl, q _ H1 s1 fun i H2 sm => ⟨fun d e => ?_, fun l => ?_⟩⟩
  · unfold signsP at e
    rw [List.getElem?_map] at e
    cases z : x.cps.toList[i]? with
    | none =>
      rw [z] at e
      cases e
    | some c =>
      rw [z] at e
      cases e
      have z2 : x.cps[i]? = some c := by rw [← Array.getElem?_toList]; exact z
      refine ⟨?_, fun y H3 w => ?_⟩
      · show i < x.cps.size
        exact (Array.getElem?_eq_some_iff.mp z2).1
      · obtain ⟨rfl, c', e1, rfl⟩ := w
        rw [z2] at e1
        cases e1
        exact ⟨rfl, Rp.str _⟩
  · show x.cps.size ≤ i
    unfold signsP at l
    rw [List.length_map, Array.length_toList] at l
    exact l
def rangeP (n : Int) : List PyData := (List.range n.toNat).map fun i => .int (i : Nat)
theorem ei_range {n : Int} {t : TA} (h : EvA K r t ds (IsA [.d (.int n)])) (h1 : -1000000 ≤ n) (h2 : n ≤ 1000000) : EvI K r (iRng1 t) ds (rangeP n) := fun F σ H o f s R q => by
  refine h F σ H o f s _ fun vs H1 _ e s1 x0 => ?_
  subst e
  obtain ⟨v, rfl, y⟩ := x1 x0
  cases y
  refine ⟨n, rfl, by omega, by omega, q _ H1 s1 fun i H2 sm => ⟨fun d e => ?_, fun l => ?_⟩⟩
  · unfold rangeP at e
    rw [List.getElem?_map] at e
    by_cases z : i < n.toNat
    · rw [List.getElem?_range z] at e
      cases e
      refine ⟨z, fun y H3 w => ?_⟩
      obtain ⟨rfl, rfl⟩ := w
      rw [Int.zero_add]
      exact ⟨rfl, Rp.int _⟩
    · rw [List.getElem?_eq_none (by rw [List.length_range]; omega)] at e
      cases e
  · show n.toNat ≤ i
    unfold rangeP at l
    rw [List.length_map, List.length_range] at l
    exact l
/-! ### comprehensions -/
theorem wipe_at (σ : L2.St) : ∀ (vs : List Nat) (j : Nat), (L2.wipe σ vs)[j]? = if j ∈ vs then (σ[j]?).map (fun _ => none) else σ[j]?
  | [], j => by
    rw [if_neg List.not_mem_nil] <;> rfl
  | v :: vs, j => by
    have ih := wipe_at σ vs j
    show ((L2.wipe σ vs).set v none)[j]? = _
    by_cases e : v = j
    · subst e
      rw [if_pos List.mem_cons_self]
      by_cases l : v < σ.length
      · rw [List.getElem?_set_self (by rw [L2.wipe_length]; exact l), List.getElem?_eq_getElem l] <;> rfl
      · rw [List.getElem?_eq_none (by rw [List.length_set, L2.wipe_length]; omega), List.getElem?_eq_none (by omega)] <;> rfl
    · rw [List.getElem?_set_ne e, ih]
      by_cases m : j ∈ vs
      · rw [if_pos m, if_pos (List.mem_cons_of_mem _ m)]
      · rw [if_neg m, if_neg (fun z => (List.mem_cons.mp z).elim (fun z => e z.symm) m)]
theorem wipe_agree {vs : List Nat} {σ σ' : L2.St} (a : Agree vs (L2.wipe σ vs) σ') : L2.wipe σ' vs = L2.wipe σ vs := by
  apply List.ext_getElem?
  intro j
  rw [wipe_at, wipe_at]
  by_cases m : j ∈ vs
  · rw [if_pos m, if_pos m]
    have l1 := a.len
    rw [L2.wipe_length] at l1
    by_cases l : j < σ.length
    · rw [List.getElem?_eq_getElem l, List.getElem?_eq_getElem (by omega)] <;> rfl
    · rw [List.getElem?_eq_none (by omega), List.getElem?_eq_none (by omega)]
  · rw [if_neg m, if_neg m, a.at_ j m, wipe_at, if_neg m]
/-- the general word: I tells of what was taken so far and of the new list so far -/
theorem evn_lc {wi : TI} {g : TG} {vs : List Nat} {xs : List PyData} (I : Nat → List PyData → Prop) (hi : EvI K r wi ds xs) (h0 : I 0 []) (hl : xs.length ≤ 100000) (hacc : ∀ i acc, I i acc → acc.length ≤ i)
    (hs : ∀ i d acc, xs[i]? = some d → I i acc → ∃ ds', EvG K r g vs (wipeD ds vs) (.d d) ds' ∧ ∃ b, EvT K r tt ds' (IsB b) ∧ (b = true → Ev K r te ds' fun w => ∃ y, w = .d y ∧ I (i + 1) (acc ++ [y])) ∧ (b = false → I (i + 1) acc))
    (hd : ∀ acc, I xs.length acc → P (.d (.list acc))) : Ev K r (tLc wi g tt te vs) ds P := fun F σ H o f s Q q => by
  refine hi F σ H o f s _ fun J H1 s1 wj => ?_
  intro D nD
  have f1 := s1.fok f
  have nDF := new_out s1.on f1 nD
  -- at turn i: the heap keeps H1, the list at D holds acc
  refine ⟨fun i m H2 => m = xs.length - i ∧ i ≤ xs.length ∧ Stp r H1 H2 ∧ ∃ ys acc, H2 D = some (.lst ys) ∧ RpAll K (hide (hid (D :: F) r) H2) ys acc ∧ I i acc,
    ⟨xs.length, by simp, Nat.zero_le _, Stp.new s1.on nD, [], [], upd_same, .nil, h0⟩, ?_⟩
  rintro i m H2 ⟨rfl, hile, s2, ys, acc, hD, ra, hI⟩
  have w2 := wj i H2 s2.same
  have s12 := s1.trans s2
  by_cases hlt : i < xs.length
  · refine .inr ?_
    have e : xs[i]? = some xs[i] := List.getElem?_eq_getElem hlt
    obtain ⟨go, yl⟩ := w2.1 _ e
    refine ⟨go, fun H' => ∃ ys acc, Stp r H1 H' ∧ H' D = some (.lst ys) ∧ RpAll K (hide (hid (D :: F) r) H') ys acc ∧ I (i + 1) acc, fun H' n => ?_, fun x H3 y => ?_⟩
    · obtain ⟨ys', acc', z1, z2, z3, z4⟩ := n
      exact ⟨xs.length - (i + 1), by omega, rfl, hlt, z1, ys', acc', z2, z3, z4⟩
    · obtain ⟨rfl, hx⟩ := yl x H3 y
      obtain ⟨ds', eg, b, et, e1, e2⟩ := hs i _ acc e hI
      -- the frame holds D
      have f3 : FOk (D :: F) r H3 := fun a ha => by
        rcases List.mem_cons.mp ha with z | z
        · subst z
          exact ⟨by rw [hD]; exact (fun z => nomatch z), fun z => nDF (List.mem_append_left _ z)⟩
        · exact ⟨fun q => ((s12.fok f) a z).1 q, (f a z).2⟩
      have sm : Same (hide (hid F r) H1) (hide (hid (D :: F) r) H3) := fun a u h => by
        obtain ⟨n1, h1⟩ := hide_of h
        have nD' : a ≠ D := fun z => by
          rw [z, nD] at h1
          cases h1
        refine hide_at (fun z => ?_) (s2.keep a u h1 fun z => n1 (List.mem_append_left _ z))
        rcases List.mem_append.mp z with z | z
        · exact n1 (List.mem_append_left _ z)
        · rcases List.mem_cons.mp z with z | z
          · exact nD' z
          · exact n1 (List.mem_append_right _ z)
      have hx1 := hx.same sm
      have env3 := (((s.same s1.same).same sm).wipe vs)
      refine eg (D :: F) _ H3 x s2.on f3 env3 hx1 _ fun σ4 H4 s4 env4 ag => ?_
      refine ⟨wipe_agree ag, ?_⟩
      have f4 := s4.fok f3
      refine et (D :: F) σ4 H4 s4.on f4 env4 _ fun b' H5 eb s5 => ?_
      subst eb
      have s45 := s4.trans s5
      have hD5 : H5 D = some (.lst ys) := s45.keep D _ hD fun z => nDF (List.mem_append_left _ z)
      have ra5 := ra.same s45.same
      cases b' with
      | true =>
        rw [if_pos rfl]
        refine (e1 rfl) (D :: F) σ4 H5 s5.on (s5.fok f4) (env4.same s5.same) _ fun v H6 w pw s6 rx => ?_
        obtain ⟨y', ew, hI'⟩ := pw
        subst ew
        have hD6 : H6 D = some (.lst ys) := s6.keep D _ hD5 fun z => nDF (List.mem_append_left _ z)
        have ra6 := ra5.same s6.same
        have hlen : ys.length ≤ i := by rw [ra.length]; exact hacc i acc hI
        refine ⟨ys, hD6, Nat.lt_of_le_of_lt (show ys.length ≤ 100000 by omega) (by decide), ys ++ [v], acc ++ [y'], ?_, upd_same, ?_, hI'⟩
        · have s26 := (s2.trans s45).trans s6
          refine ⟨fun b hb => ?_, fun a u ha hn => ?_, fun a ha => ?_⟩
          · obtain ⟨q1, q2, q3, q4, q5⟩ := s26.on b hb
            have nb : b ≠ D := fun z => nDF (by rw [← z, hb]; exact List.mem_append_left _ (List.mem_singleton.mpr rfl))
            exact ⟨q1, q2, q3, by rw [upd_ne nb]; exact q4, q5⟩
          · rw [upd_ne (ne_of_none ha nD)]
            exact s26.keep a u ha hn
          · by_cases q1 : a = D
            · rw [q1]
              exact nD
            · rw [upd_ne q1] at ha
              exact s26.dom a ha
        · have sm6 : Same (hide (hid (D :: F) r) H6) (hide (hid (D :: F) r) (upd H6 D (.lst (ys ++ [v])))) := fun a u h => by
            obtain ⟨n1, h1⟩ := hide_of h
            refine hide_at n1 ?_
            rw [upd_ne fun z => n1 (by rw [z]; exact List.mem_append_right _ List.mem_cons_self)]
            exact h1
          exact (ra6.append (.cons rx .nil)).same sm6
      | false =>
        rw [if_neg Bool.false_ne_true]
        exact ⟨ys, acc, (s2.trans s45), hD5, ra5, e2 rfl⟩
  · have ei : i = xs.length := by omega
    subst ei
    refine .inl ⟨w2.2 (Nat.le_refl _), ?_⟩
    have sm : Same (hide (hid (D :: F) r) H2) (hide (hid F r) H2) := fun a u h => by
      obtain ⟨n1, h1⟩ := hide_of h
      exact hide_at (fun z => n1 (by
        rcases List.mem_append.mp z with z | z
        · exact List.mem_append_left _ z
        · exact List.mem_append_right _ (List.mem_cons_of_mem _ z))) h1
    exact q _ H2 _ (hd acc hI) s12 (Rp.lst (hide_at nDF hD) (ra.same sm))
end
end Kn

set_option Elab.async false
set_option linter.all false
set_option maxRecDepth 100000
set_option maxHeartbeats 4000000
/-! Statements over data; a def by its body. -/
namespace Kn
open PySem PySem.Spec PyProof.Rows L2
section
variable {K K' : PySem.W.Frag} {r : Res} {ds : Sl} {P : Da → Prop} {ta tb tc te : TE} {tt : TT}
theorem et_yes : EvT K r tYes ds (IsB true) := fun F σ H o f s Q q => q true H rfl (Stp.refl o)
/-! ### comprehensions in short -/
theorem ev_lcmap {α : Type} {wi : TI} {g : TG} {vs : List Nat} (l : List α) {gd fd : α → PyData} {ds' : α → Sl} (hi : EvI K r wi ds (l.map gd)) (hl : l.length ≤ 100000)
    (hg : ∀ a ∈ l, EvG K r g vs (wipeD ds vs) (.d (gd a)) (ds' a)) (he : ∀ a ∈ l, Ev K r te (ds' a) (Is (.d (fd a)))) : Ev K r (tLc wi g tYes te vs) ds (Is (.d (.list (l.map fd)))) := by
  refine evn_lc (fun i acc => acc = (l.take i).map fd) hi rfl (by rw [List.length_map]; exact hl) (fun i acc e => by rw [e, List.length_map, List.length_take]; omega) (fun i d acc hd e => ?_) (fun acc e => ?_)
  · rw [List.getElem?_map] at hd
    cases q : l[i]? with
    | none =>
      rw [q] at hd
      cases hd
    | some a =>
      rw [q] at hd
      cases hd
      have m := List.mem_of_getElem? q
      refine ⟨ds' a, hg a m, true, et_yes, fun _ => (he a m).imp fun w ew => ⟨fd a, ew, ?_⟩, fun z => by cases z⟩
      rw [e, List.take_add_one, q, List.map_append] <;> rfl
  · rw [e, List.length_map, List.take_length] <;> rfl
/-- items with any of some answers -/
theorem evn_lcmap {α β : Type} {wi : TI} {g : TG} {vs : List Nat} (l : List α) {gd : α → PyData} {ds' : α → Sl} (hb : β → PyData) (G : β → Prop) (hi : EvI K r wi ds (l.map gd)) (hl : l.length ≤ 100000)
    (hg : ∀ a ∈ l, EvG K r g vs (wipeD ds vs) (.d (gd a)) (ds' a)) (he : ∀ a ∈ l, Ev K r te (ds' a) fun w => ∃ b, G b ∧ w = .d (hb b)) :
    Ev K r (tLc wi g tYes te vs) ds fun w => ∃ bs : List β, bs.length = l.length ∧ (∀ b ∈ bs, G b) ∧ w = .d (.list (bs.map hb)) := by
  refine evn_lc (fun i acc => ∃ bs : List β, bs.length = min i l.length ∧ (∀ b ∈ bs, G b) ∧ acc = bs.map hb) hi ⟨[], by simp, fun _ h => (nomatch h), rfl⟩ (by rw [List.length_map]; exact hl) (fun i acc e => ?_) (fun i d acc hd e => ?_) (fun acc e => ?_)
  · obtain ⟨bs, e1, _, rfl⟩ := e
    rw [List.length_map]
    omega
  · obtain ⟨bs, e1, e2, rfl⟩ := e
    rw [List.getElem?_map] at hd
    cases q : l[i]? with
    | none =>
      rw [q] at hd
      cases hd
    | some a =>
      rw [q] at hd
      cases hd
      have m := List.mem_of_getElem? q
      have hi' := (List.getElem?_eq_some_iff.mp q).1
      refine ⟨ds' a, hg a m, true, et_yes, fun _ => (he a m).imp fun w ew => ?_, fun z => by cases z⟩
      obtain ⟨b, gb, ew⟩ := ew
      refine ⟨hb b, ew, bs ++ [b], by rw [List.length_append, e1, List.length_singleton]; omega, fun c hc => ?_, by rw [List.map_append] <;> rfl⟩
      rcases List.mem_append.mp hc with z | z
      · exact e2 c z
      · rw [List.mem_singleton.mp z]
        exact gb
  · obtain ⟨bs, e1, e2, rfl⟩ := e
    exact ⟨bs, by rw [e1, List.length_map]; omega, e2, rfl⟩
end
/-! ### the frame of a def's body: fixed -/
structure Bs where
  K : PySem.W.Frag
  F : List Addr
  r : Res
  H0 : Hp
  post : Da → Prop
/-- a list of one's own that is being filled -/
abbrev Ow := Option (Addr × List PyData)
def Ow.adr : Ow → List Addr
  | none => []
  | some p => [p.1]
structure Holds (B : Bs) (o : Ow) (ds : Sl) (σ : L2.St) (H : Hp) : Prop where
  stp : Stp B.r B.H0 H
  f0 : FOk B.F B.r B.H0
  fok : FOk (o.adr ++ B.F) B.r H
  own : ∀ p, o = some p → B.H0 p.1 = none ∧ ∃ vs, H p.1 = some (.lst vs) ∧ RpAll B.K (hide (hid (o.adr ++ B.F) B.r) H) vs p.2
  env : SEnv B.K (hide (hid (o.adr ++ B.F) B.r) H) σ ds
def Go (B : Bs) (o : Ow) (ds : Sl) (t : TS) (D : Ends) : Prop := ∀ σ H, Holds B o ds σ H → t D σ H
/-- what is wanted of the end -/
structure Rt (B : Bs) (D : Ends) : Prop where
  rt : ∀ v H2 w, B.post w → Stp B.r B.H0 H2 → RpX B.K (hide (hid B.F B.r) H2) v w → D.rt v H2
section
variable {B : Bs} {o : Ow} {ds : Sl} {P : Da → Prop} {te : TE} {tt : TT} {t u : TS} {D : Ends}
theorem Holds.step {σ : L2.St} {H H' : Hp} (h : Holds B o ds σ H) (s : Stp B.r H H') : Holds B o ds σ H' := by
  refine ⟨h.stp.trans s, h.f0, s.fok h.fok, fun p e => ?_, h.env.same s.same⟩
  obtain ⟨h0, vs, h1, h2⟩ := h.own p e
  have n : p.1 ∉ B.r.adr := by
    refine (h.fok p.1 (List.mem_append_left _ ?_)).2
    rw [e]
    exact List.mem_singleton.mpr rfl
  exact ⟨h0, vs, s.keep _ _ h1 n, h2.same s.same⟩
theorem Holds.set {σ : L2.St} {H : Hp} (h : Holds B o ds σ H) (i : Nat) {v : V} {w : Da} (x : RpX B.K (hide (hid (o.adr ++ B.F) B.r) H) v w) : Holds B o (ds.set i (some w)) (σ.set i (some v)) H :=
  ⟨h.stp, h.f0, h.fok, h.own, h.env.set i x⟩
theorem Holds.envs {ds' : Sl} {σ σ' : L2.St} {H : Hp} (h : Holds B o ds σ H) (x : SEnv B.K (hide (hid (o.adr ++ B.F) B.r) H) σ' ds') : Holds B o ds' σ' H := ⟨h.stp, h.f0, h.fok, h.own, x⟩
theorem run_ev (h : Ev B.K B.r te ds P) {σ : L2.St} {H : Hp} (x : Holds B o ds σ H) {Q : VK} (q : ∀ v H2 w, P w → Stp B.r H H2 → Holds B o ds σ H2 → RpX B.K (hide (hid (o.adr ++ B.F) B.r) H2) v w → Q v H2) : te σ H Q :=
  h (o.adr ++ B.F) σ H x.stp.on x.fok x.env Q fun v H2 w p s rx => q v H2 w p s (x.step s) rx
theorem go_asg {i : Nat} (h : Ev B.K B.r te ds P) (k : ∀ w, P w → Go B o (ds.set i (some w)) u D) : Go B o ds (tSeq (tAsg te (gName i)) u) D := fun σ H x =>
  run_ev h x fun v H2 w p s x2 rx => k w p _ H2 (x2.set i rx)
/-- x = e -/
theorem go_set {i : Nat} {w : Da} (h : Ev B.K B.r te ds (Is w)) (k : Go B o (ds.set i (some w)) u D) : Go B o ds (tSeq (tAsg te (gName i)) u) D :=
  go_asg h fun w' e => by subst e; exact k
/-- a, b = e -/
theorem go_unp {g : TG} {vs : List Nat} (h : Ev B.K B.r te ds P) (k : ∀ w, P w → ∃ ds', EvG B.K B.r g vs ds w ds' ∧ Go B o ds' u D) : Go B o ds (tSeq (tAsg te g) u) D := fun σ H x => by
  refine run_ev h x fun v H2 w p s x2 rx => ?_
  obtain ⟨ds', eg, kk⟩ := k w p
  exact eg (o.adr ++ B.F) σ H2 v s.on x2.fok x2.env rx _ fun σ' H3 s3 e3 _ => kk σ' H3 ((x2.step s3).envs e3)
/-- a, b = e1, e2 -/
theorem go_par {i j : Nat} {ta : TA} {Pa : List Da → Prop} (h : EvA B.K B.r ta ds Pa) (k : ∀ ws, Pa ws → ∃ w1 w2, ws = [w1, w2] ∧ Go B o ((ds.set i (some w1)).set j (some w2)) u D) : Go B o ds (tSeq (tPar i j ta) u) D := fun σ H x => by
  refine h (o.adr ++ B.F) σ H x.stp.on x.fok x.env _ fun vs H2 ws p s rx => ?_
  obtain ⟨w1, w2, e, kk⟩ := k ws p
  subst e
  obtain ⟨v, z, rfl, r1, r2⟩ := x2 rx
  exact ⟨v, z, rfl, kk _ H2 (((x.step s).set i r1).set j r2)⟩
theorem x3 {K : PySem.W.Frag} {H : Hp} {vs : List V} {w u y : Da} (h : RpXs K H vs [w, u, y]) : ∃ a b c, vs = [a, b, c] ∧ RpX K H a w ∧ RpX K H b u ∧ RpX K H c y := by
  cases h with
  | cons a b =>
    obtain ⟨v2, v3, rfl, r2, r3⟩ := x2 b
    exact ⟨_, _, _, rfl, a, r2, r3⟩
theorem go_par3 {i j l : Nat} {ta : TA} {Pa : List Da → Prop} (h : EvA B.K B.r ta ds Pa) (k : ∀ ws, Pa ws → ∃ w1 w2 w3, ws = [w1, w2, w3] ∧ Go B o (((ds.set i (some w1)).set j (some w2)).set l (some w3)) u D) : Go B o ds (tSeq (tPar3 i j l ta) u) D := fun σ H x => by
  refine h (o.adr ++ B.F) σ H x.stp.on x.fok x.env _ fun vs H2 ws p s rx => ?_
  obtain ⟨w1, w2, w3, e, kk⟩ := k ws p
  subst e
  obtain ⟨v, z, y, rfl, r1, r2, r3⟩ := x3 rx
  exact ⟨v, z, y, rfl, kk _ H2 ((((x.step s).set i r1).set j r2).set l r3)⟩
theorem gon_if {Pb : Bool → Prop} (h : EvT B.K B.r tt ds Pb) (k1 : Pb true → Go B o ds (tSeq t u) D) {t2 : TS} (k2 : Pb false → Go B o ds (tSeq t2 u) D) : Go B o ds (tSeq (tIfS tt t t2) u) D := fun σ H x => by
  refine h (o.adr ++ B.F) σ H x.stp.on x.fok x.env _ fun b H2 p s => ?_
  cases b with
  | true =>
    rw [if_pos rfl]
    exact k1 p σ H2 (x.step s)
  | false =>
    rw [if_neg Bool.false_ne_true]
    exact k2 p σ H2 (x.step s)
theorem go_if {b : Bool} (h : EvT B.K B.r tt ds (IsB b)) {t2 : TS} (k1 : b = true → Go B o ds (tSeq t u) D) (k2 : b = false → Go B o ds (tSeq t2 u) D) : Go B o ds (tSeq (tIfS tt t t2) u) D :=
  gon_if h (fun e => k1 e.symm) fun e => k2 e.symm
theorem go_assoc {a b c : TS} (h : Go B o ds (tSeq a (tSeq b c)) D) : Go B o ds (tSeq (tSeq a b) c) D := h
theorem go_skip (h : Go B o ds u D) : Go B o ds (tSeq tNext u) D := h
theorem go_next (h : ∀ σ H, Holds B o ds σ H → D.nx σ H) : Go B o ds tNext D := h
theorem hid_sub {F : List Addr} {r : Res} {H : Hp} {G : List Addr} : Same (hide (hid (G ++ F) r) H) (hide (hid F r) H) := fun a u h => by
  obtain ⟨n, e⟩ := hide_of h
  refine hide_at (fun z => n ?_) e
  rcases List.mem_append.mp z with z | z
  · exact List.mem_append_left _ z
  · exact List.mem_append_right _ (List.mem_append_right _ z)
theorem go_ret (R : Rt B D) (h : Ev B.K B.r te ds P) (k : ∀ w, P w → B.post w) : Go B o ds (tSeq (tRet te) u) D := fun σ H x =>
  run_ev h x fun v H2 w p s x2 rx => R.rt v H2 w (k w p) x2.stp (rx.same hid_sub)
/-- return the list of one's own -/
theorem go_retO (R : Rt B D) {i : Nat} {p : Addr} {xs : List PyData} (e : ds[i]? = some (some (.v (.ref p)))) (k : B.post (.d (.list xs))) : Go B (some (p, xs)) ds (tSeq (tRet (tVar i)) u) D := fun σ H x => by
  obtain ⟨v, e1, e2⟩ := x.env.at_ i _ e
  obtain rfl : v = V.ref p := e2
  refine ⟨_, e1, ?_⟩
  obtain ⟨h0, vs, h1, h2⟩ := x.own _ rfl
  refine R.rt _ H _ k x.stp (Rp.lst (hide_at (fun z => ?_) h1) (h2.same hid_sub))
  rcases List.mem_append.mp z with z | z
  · exact (x.fok p (List.mem_append_left _ (List.mem_singleton.mpr rfl))).2 z
  · exact (x.f0 p z).1 h0
/-! ### a list of one's own -/
/-- x = [] -/
theorem go_new {i : Nat} (k : ∀ p, Go B (some (p, [])) (ds.set i (some (.v (.ref p)))) u D) : Go B none ds (tSeq (tAsg (tLst tNil) (gName i)) u) D := fun σ H x => by
  refine ⟨Nat.zero_le _, fun p np => ?_⟩
  have s := Stp.new (o := .lst []) x.stp.on np
  have x2 := x.step s
  have out := new_out (F := B.F) x.stp.on (fun a ha => x.fok a (List.mem_append_right _ ha)) np
  refine k p _ _ ⟨x2.stp, x2.f0, fun a ha => ?_, fun q e => ?_, ?_⟩
  · rcases List.mem_append.mp ha with z | z
    · rw [List.mem_singleton.mp z]
      refine ⟨by rw [upd_same]; exact (fun z => nomatch z), fun z => out (List.mem_append_left _ z)⟩
    · exact x2.fok a z
  · cases e
    exact ⟨x.stp.dom p np, [], upd_same, .nil⟩
  · have e1 : SEnv B.K (hide (hid ([p] ++ B.F) B.r) (upd H p (.lst []))) σ ds := x.env.same fun a v h => by
      obtain ⟨n, h1⟩ := hide_of h
      have np' : a ≠ p := ne_of_none h1 np
      refine hide_at (fun z => ?_) (by rw [upd_ne np']; exact h1)
      rcases List.mem_append.mp z with z | z
      · exact n (List.mem_append_left _ z)
      · rcases List.mem_append.mp z with z | z
        · exact np' (List.mem_singleton.mp z)
        · exact n (List.mem_append_right _ z)
    exact e1.set i rfl
/-- the list at p is written -/
theorem Holds.write {p : Addr} {xs ys : List PyData} {σ : L2.St} {H : Hp} {vs : List V} (x : Holds B (some (p, xs)) ds σ H) (ra : RpAll B.K (hide (hid ([p] ++ B.F) B.r) H) vs ys) : Holds B (some (p, ys)) ds σ (upd H p (.lst vs)) := by
  obtain ⟨h0, vs0, h1, _⟩ := x.own _ rfl
  have pr : p ∉ B.r.adr := (x.fok p (List.mem_append_left _ (List.mem_singleton.mpr rfl))).2
  have sm : Same (hide (hid ([p] ++ B.F) B.r) H) (hide (hid ([p] ++ B.F) B.r) (upd H p (.lst vs))) := fun a u h => by
    obtain ⟨n, h2⟩ := hide_of h
    refine hide_at n ?_
    rw [upd_ne fun z => n (by rw [z]; exact List.mem_append_right _ (List.mem_append_left _ (List.mem_singleton.mpr rfl)))]
    exact h2
  refine ⟨⟨fun b hb => ?_, fun a u ha hn => ?_, fun a ha => ?_⟩, x.f0, fun a ha => ?_, fun q e => ?_, x.env.same sm⟩
  · obtain ⟨q1, q2, q3, q4, q5⟩ := x.stp.on b hb
    have nb : b ≠ p := fun z => pr (by rw [← z, hb]; exact List.mem_singleton.mpr rfl)
    exact ⟨q1, q2, q3, by rw [upd_ne nb]; exact q4, q5⟩
  · rw [upd_ne (ne_of_none ha h0)]
    exact x.stp.keep a u ha hn
  · by_cases q1 : a = p
    · rw [q1]
      exact h0
    · rw [upd_ne q1] at ha
      exact x.stp.dom a ha
  · refine ⟨?_, (x.fok a ha).2⟩
    by_cases q1 : a = p
    · rw [q1, upd_same]
      exact (fun z => nomatch z)
    · rw [upd_ne q1]
      exact (x.fok a ha).1
  · cases e
    exact ⟨h0, vs, upd_same, ra.same sm⟩
/-- x.append(e) -/
theorem go_append {i : Nat} {p : Addr} {xs : List PyData} {Pe : Da → Prop} {K' : PySem.W.Frag} (e : ds[i]? = some (some (.v (.ref p)))) (hl : xs.length < 100000) (h : Ev B.K B.r te ds Pe) (hp : ∀ w, Pe w → ∃ d, w = .d d ∧ Go B (some (p, xs ++ [d])) ds u D) (hK : K' = B.K := by rfl) :
    Go B (some (p, xs)) ds (tSeq (tDrop (tBM K' "list" rAppend (tVar i) (tCons te tNil))) u) D := fun σ H x => by
  subst hK
  obtain ⟨v, e1, e2⟩ := x.env.at_ i _ e
  obtain rfl : v = V.ref p := e2
  obtain ⟨h0, vs, h1, h2⟩ := x.own _ rfl
  refine ⟨_, e1, .inl ⟨rfl, _, SqL.of h1⟩, ?_⟩
  refine run_ev h x fun v H2 w pw s x2' rx => ?_
  obtain ⟨d, ew, k⟩ := hp w pw
  subst ew
  have pr : p ∉ B.r.adr := (x.fok p (List.mem_append_left _ (List.mem_singleton.mpr rfl))).2
  have h1' := s.keep _ _ h1 pr
  exact ⟨p, vs, v, rfl, rfl, h1', Nat.lt_of_lt_of_le (by rw [h2.length]; exact hl) (by decide), k σ _ (x2'.write ((h2.same s.same).append (.cons rx .nil)))⟩
/-- y = x.pop() -/
theorem go_pop {i j : Nat} {p : Addr} {xs : List PyData} {d : PyData} {K' : PySem.W.Frag} (e : ds[i]? = some (some (.v (.ref p)))) (k : Go B (some (p, xs)) (ds.set j (some (.d d))) u D) (hK : K' = B.K := by rfl) :
    Go B (some (p, xs ++ [d])) ds (tSeq (tAsg (tBM0 K' "list" rPop (tVar i)) (gName j)) u) D := fun σ H x => by
  subst hK
  obtain ⟨v, e1, e2⟩ := x.env.at_ i _ e
  obtain rfl : v = V.ref p := e2
  obtain ⟨h0, vs, h1, h2⟩ := x.own _ rfl
  have hlen := h2.length
  rw [List.length_append, List.length_singleton] at hlen
  have hl : (xs ++ [d])[vs.length - 1]? = some d := by
    rw [show vs.length - 1 = xs.length by omega]
    simp
  obtain ⟨y, e3, ry⟩ := h2.get hl
  refine ⟨_, e1, .inl ⟨rfl, _, SqL.of h1⟩, p, vs, y, rfl, rfl, h1, e3, ?_⟩
  have rt : RpAll B.K (hide (hid ([p] ++ B.F) B.r) H) vs.dropLast xs := by
    have z := h2.take xs.length
    have ed : vs.dropLast = vs.take xs.length := by
      rw [List.dropLast_eq_take, show vs.length - 1 = xs.length by omega]
    rw [ed]
    have ex : (xs ++ [d]).take xs.length = xs := by simp
    rw [ex] at z
    exact z
  have x2 := x.write rt
  refine k _ _ (x2.set j (ry.same fun a u h => ?_))
  obtain ⟨n, h2'⟩ := hide_of h
  refine hide_at n ?_
  rw [upd_ne fun z => n (by rw [z]; exact List.mem_append_right _ (List.mem_append_left _ (List.mem_singleton.mpr rfl)))]
  exact h2'
/-- a test that reads the list of one's own as it stands -/
theorem go_ifO {i : Nat} {p : Addr} {xs : List PyData} {b : Bool} {t2 : TS} (e : ds[i]? = some (some (.v (.ref p)))) (h : EvT B.K B.r tt (ds.set i (some (.d (.list xs)))) (IsB b)) (k1 : b = true → Go B (some (p, xs)) ds (tSeq t u) D) (k2 : b = false → Go B (some (p, xs)) ds (tSeq t2 u) D) :
    Go B (some (p, xs)) ds (tSeq (tIfS tt t t2) u) D := fun σ H x => by
  obtain ⟨v, e1, e2⟩ := x.env.at_ i _ e
  obtain rfl : v = V.ref p := e2
  obtain ⟨h0, vs, h1, h2⟩ := x.own _ rfl
  have out : p ∉ hid B.F B.r := fun z => by
    rcases List.mem_append.mp z with z | z
    · exact (x.fok p (List.mem_append_left _ (List.mem_singleton.mpr rfl))).2 z
    · exact (x.f0 p z).1 h0
  have env : SEnv B.K (hide (hid B.F B.r) H) σ (ds.set i (some (.d (.list xs)))) := by
    have q := (x.env.same (hid_sub (G := [p]))).set i (v := .ref p) (w := .d (.list xs)) (Rp.lst (hide_at out h1) (h2.same hid_sub))
    have es : σ.set i (some (.ref p)) = σ := by
      apply List.ext_getElem?
      intro j
      by_cases ej : i = j
      · subst ej
        rw [List.getElem?_set_self (List.getElem?_eq_some_iff.mp e1).1, e1]
      · rw [List.getElem?_set_ne ej]
    rw [es] at q
    exact q
  have fB : FOk B.F B.r H := fun a ha => x.fok a (List.mem_append_right _ ha)
  refine h B.F σ H x.stp.on fB env _ fun c H2 ec s => ?_
  subst ec
  have x2 := x.step s
  cases c with
  | true =>
    rw [if_pos rfl]
    exact k1 rfl σ H2 x2
  | false =>
    rw [if_neg Bool.false_ne_true]
    exact k2 rfl σ H2 x2
/-! ### for -/
/-- the frame told anew, from the heap H1 on -/
abbrev Bs.at_ (B : Bs) (H1 : Hp) : Bs := { B with H0 := H1 }
theorem go_for {wi : TI} {g : TG} {tb : TS} {vs : List Nat} {xs : List PyData} (R : Rt B D) (I : Nat → Ow → Sl → Prop) (hi : EvI B.K B.r wi ds xs) (h0 : I 0 o ds)
    (hs : ∀ H1 i d o' ds', xs[i]? = some d → o'.adr = o.adr → I i o' ds' → ∃ ds'', EvG B.K B.r g vs ds' (.d d) ds'' ∧
      ∀ D', Rt (B.at_ H1) D' → (∀ o2 ds2, o2.adr = o.adr → I (i + 1) o2 ds2 → ∀ σ H, Holds (B.at_ H1) o2 ds2 σ H → D'.nx σ H) → Go (B.at_ H1) o' ds'' tb D')
    (hd : ∀ o' ds', o'.adr = o.adr → I xs.length o' ds' → Go B o' ds' u D) : Go B o ds (tSeq (tFor wi g tb) u) D := fun σ H x => by
  refine hi (o.adr ++ B.F) σ H x.stp.on x.fok x.env _ fun J H1 s1 wj => ?_
  have xh := x.step s1
  have oN : ∀ a ∈ o.adr, B.H0 a = none := fun a ha => by
    cases o with
    | none => cases ha
    | some p =>
      rw [List.mem_singleton.mp ha]
      exact (x.own p rfl).1
  -- the frame told from H1 on, the list of one's own out of sight
  have fA : FOk B.F B.r (hide o.adr H1) := fun a ha => by
    refine ⟨?_, (xh.f0 a ha).2⟩
    have n : a ∉ o.adr := fun z => (xh.f0 a ha).1 (oN a z)
    unfold hide
    rw [if_neg n]
    exact (xh.fok a (List.mem_append_right _ ha)).1
  have toB : ∀ {o' : Ow} {ds' : Sl} {σ' : L2.St} {H' : Hp}, o'.adr = o.adr → Holds (B.at_ (hide o.adr H1)) o' ds' σ' H' → Holds B o' ds' σ' H' := fun {o' ds' σ' H'} ea y => by
    refine ⟨⟨y.stp.on, fun a v ha hn => ?_, fun a ha => ?_⟩, xh.f0, y.fok, fun p e => ⟨oN p.1 (by rw [← ea, e]; exact List.mem_singleton.mpr rfl), (y.own p e).2⟩, y.env⟩
    · have n : a ∉ o.adr := fun z => by
        rw [oN a z] at ha
        cases ha
      exact y.stp.keep a v (hide_at n (xh.stp.keep a v ha hn)) hn
    · have q := y.stp.dom a ha
      by_cases n : a ∈ o.adr
      · exact oN a n
      · have q' : hide o.adr H1 a = none := q
        unfold hide at q'
        rw [if_neg n] at q'
        exact xh.stp.dom a q'
  have RA : ∀ {D' : Ends}, D'.rt = D.rt → Rt (B.at_ (hide o.adr H1)) D' := fun {D'} e => ⟨fun v H2 w pw s rx => by
    rw [e]
    refine R.rt v H2 w pw ⟨s.on, fun a v ha hn => ?_, fun a ha => ?_⟩ rx
    · have n : a ∉ o.adr := fun z => by
        rw [oN a z] at ha
        cases ha
      exact s.keep a v (hide_at n (xh.stp.keep a v ha hn)) hn
    · have q : hide o.adr H1 a = none := s.dom a ha
      by_cases n : a ∈ o.adr
      · exact oN a n
      · unfold hide at q
        rw [if_neg n] at q
        exact xh.stp.dom a q⟩
  have start : Holds (B.at_ (hide o.adr H1)) o ds σ H1 := by
    refine ⟨⟨xh.stp.on, fun a v ha _ => (hide_of ha).2, fun a ha => ?_⟩, fA, xh.fok, fun p e => ⟨?_, (xh.own p e).2⟩, xh.env⟩
    · show hide o.adr H1 a = none
      unfold hide
      rw [ha]
      exact ite_self _
    · show hide o.adr H1 p.1 = none
      unfold hide
      rw [if_pos (by rw [e]; exact List.mem_singleton.mpr rfl)]
  refine ⟨fun i m σ2 H2 => m = xs.length - i ∧ i ≤ xs.length ∧ ∃ o' ds', o'.adr = o.adr ∧ I i o' ds' ∧ Holds (B.at_ (hide o.adr H1)) o' ds' σ2 H2, ⟨xs.length, by simp, Nat.zero_le _, o, ds, rfl, h0, start⟩, ?_⟩
  rintro i m σ2 H2 ⟨rfl, hile, o', ds', ea, hI, y⟩
  have sm : Same (hide (hid (o.adr ++ B.F) B.r) H1) (hide (hid (o.adr ++ B.F) B.r) H2) := fun a v ha => by
    obtain ⟨n, h1⟩ := hide_of ha
    refine hide_at n (y.stp.keep a v (hide_at (fun z => n (List.mem_append_right _ (List.mem_append_left _ z))) h1) fun z => n (List.mem_append_left _ z))
  have w2 := wj i H2 sm
  by_cases hlt : i < xs.length
  · refine .inr ?_
    have e : xs[i]? = some xs[i] := List.getElem?_eq_getElem hlt
    obtain ⟨go, yl⟩ := w2.1 _ e
    obtain ⟨ds'', eg, body⟩ := hs (hide o.adr H1) i _ o' ds' e ea hI
    refine ⟨go, fun σ' H' => ∃ o2 ds2, o2.adr = o.adr ∧ I (i + 1) o2 ds2 ∧ Holds (B.at_ (hide o.adr H1)) o2 ds2 σ' H', fun σ' H' n => ?_, fun v H3 yv => ?_⟩
    · obtain ⟨o2, ds2, z1, z2, z3⟩ := n
      exact ⟨xs.length - (i + 1), by omega, rfl, hlt, o2, ds2, z1, z2, z3⟩
    · obtain ⟨rfl, hx⟩ := yl v H3 yv
      have hx2 := hx.same sm
      rw [← ea] at hx2
      refine eg (o'.adr ++ B.F) σ2 H3 v y.stp.on y.fok y.env hx2 _ fun σ4 H4 s4 e4 _ => ?_
      refine (body _ ?_ ?_) σ4 H4 ((y.step s4).envs e4)
      · exact RA rfl
      · exact fun o2 ds2 z1 z2 σ5 H5 z3 => ⟨o2, ds2, z1, z2, z3⟩
  · have ei : i = xs.length := by omega
    subst ei
    exact .inl ⟨w2.2 (Nat.le_refl _), hd o' ds' ea hI σ2 H2 (toB ea y)⟩
end
/-! ### a def by its body -/
def startD (n : Nat) (ws : List Da) : Sl := ws.map some ++ List.replicate (n - ws.length) none
theorem start_env {K : PySem.W.Frag} {H : Hp} {N : List Str} {vs : List V} {ws : List Da} (h : RpXs K H vs ws) : SEnv K H (L2.start N vs) (startD N.length ws) := by
  have hl := h.length
  have key : ∀ (vs : List V) (ws : List Da), RpXs K H vs ws → ∀ (n i : Nat) (w : Da), (ws.map some ++ List.replicate n none)[i]? = some (some w) → ∃ v, (vs.map some ++ List.replicate n (none : Option V))[i]? = some (some v) ∧ RpX K H v w := by
    intro vs ws h
    induction h with
    | nil =>
      intro n i w e
      rw [List.map_nil, List.nil_append, List.getElem?_replicate] at e
      split at e <;> cases e
    | cons a b ih =>
      intro n i w e
      cases i with
      | zero =>
        cases e
        exact ⟨_, rfl, a⟩
      | succ i => exact ih n i w e
  refine ⟨?_, fun i w e => ?_⟩
  · unfold L2.start startD
    simp [hl]
  · unfold startD at e
    unfold L2.start
    rw [hl]
    exact key vs ws h _ i w e
section
variable {P : Program} {w : World} {K : PySem.W.Frag} {mg : Str → Option Value} {base : Heap}
theorem okG {x : Str} {st : Stmt} {f : Addr} {fd : FuncData} {N ps : List Str} {k : Nat} {α : Type} {ar : α → Res → List Da} {pre : α → Res → Prop} {post : α → Da → Prop} (F : FunD K x x (defArgs st) (defBody st) (defScope st) [] [] f fd) (S : FnScope N ps (defScope st))
    (hlen : ∀ a r, (ar a r).length = ps.length)
    (hbody : ∀ (cdv : Value) (A : Around) (outer : List Env) (s : Shared) (H : Hp) (E : XK), Room k (A.deeper (envOfC x (defScope st) s.heap.objs.size f cdv)) →
      ∃ t, PSs (cxOf CX0 P w K mg base N x (defScope st) f cdv A outer s H E).nox (defBody st) t ∧ ∀ (a : α) (r : Res) (F0 : List Addr) (H0 : Hp) (D : Ends), pre a r → Rt ⟨K, F0, r, H0, post a⟩ D → Go ⟨K, F0, r, H0, post a⟩ none (startD N.length (ar a r)) t D) :
    FnOk P w K mg base CX0 (k + 1) f fd ps (spG K ar pre post) := by
  refine F.ok S (fun vs H Q E h => ?_) (fun cdv A outer s H vs Q E hr h => ?_)
  · obtain ⟨a, F0, r, _, _, hx, _⟩ := h
    rw [hx.length, hlen]
  · obtain ⟨a, F0, r, ho, hf, hx, hp, hq⟩ := h
    obtain ⟨t, hd, go⟩ := hbody cdv A outer s H E hr
    refine ⟨t, hd.nox, go a r F0 H { nx := fun _ H' => Q .non H', rt := Q } hp ⟨hq⟩ _ H ⟨Stp.refl ho, hf, hf, fun _ z => (nomatch z), ?_⟩⟩
    exact start_env hx
end
end Kn

set_option Elab.async false
set_option linter.all false
set_option maxRecDepth 100000
set_option maxHeartbeats 4000000
/-! The text by places, and what is told of the module behind its top. -/
namespace Kn
open PySem PySem.Spec PyProof.Rows L2
/-- what is told of the module -/
structure Tx (K : PySem.W.Frag) (mg : Str → Option Value) (w : World) : Prop where
  c : He.SaysT fa fn ts w K
  m : ex K = true
  g : ∀ x : Str, (He.Fa.glo x).ok K = true → mg x = some (.ref (He.ga K x))
  f : ∀ x : Str, (He.Fa.free x).ok K = true → mg x = none
  i : ∀ (x : Str) (n : Int), (He.Fa.int x n).ok K = true → ∃ t, mg x = some (.int n t)
  s : ∀ (x z : Str), (He.Fa.str x z).ok K = true → ∃ t, mg x = some (.str z t)
theorem tx_of {K : PySem.W.Frag} {mg : Str → Option Value} {w : World} {h : Heap} (X : K.In h) (G : h.Ns mainGlobals mg) (c : He.SaysT fa fn ts w K) (m : ex K = true) : Tx K mg w :=
  ⟨c, m, fun _ e => He.glo_ok X G e, fun _ e => He.free_ok X G e, fun _ _ e => He.int_ok X G e, fun _ _ e => He.str_ok X G e⟩
section
variable {K : PySem.W.Frag} {mg : Str → Option Value} {w : World}
theorem Tx.g_is_integer (T : Tx K mg w) : mg "is_integer" = some (.ref (He.ga K "is_integer")) := T.g _ (T.c.d.fact 0 (f := .glo "is_integer") rfl)
theorem Tx.g_is_between (T : Tx K mg w) : mg "is_between" = some (.ref (He.ga K "is_between")) := T.g _ (T.c.d.fact 1 (f := .glo "is_between") rfl)
theorem Tx.g_is_word (T : Tx K mg w) : mg "is_word" = some (.ref (He.ga K "is_word")) := T.g _ (T.c.d.fact 2 (f := .glo "is_word") rfl)
theorem Tx.g_do_undo (T : Tx K mg w) : mg "do_undo" = some (.ref (He.ga K "do_undo")) := T.g _ (T.c.d.fact 3 (f := .glo "do_undo") rfl)
theorem Tx.g_undone_word (T : Tx K mg w) : mg "undone_word" = some (.ref (He.ga K "undone_word")) := T.g _ (T.c.d.fact 4 (f := .glo "undone_word") rfl)
theorem Tx.g_is_plain (T : Tx K mg w) : mg "is_plain" = some (.ref (He.ga K "is_plain")) := T.g _ (T.c.d.fact 5 (f := .glo "is_plain") rfl)
theorem Tx.g_is_step (T : Tx K mg w) : mg "is_step" = some (.ref (He.ga K "is_step")) := T.g _ (T.c.d.fact 6 (f := .glo "is_step") rfl)
theorem Tx.g_left_out (T : Tx K mg w) : mg "left_out" = some (.ref (He.ga K "left_out")) := T.g _ (T.c.d.fact 7 (f := .glo "left_out") rfl)
theorem Tx.g_turned (T : Tx K mg w) : mg "turned" = some (.ref (He.ga K "turned")) := T.g _ (T.c.d.fact 8 (f := .glo "turned") rfl)
theorem Tx.g_joined (T : Tx K mg w) : mg "joined" = some (.ref (He.ga K "joined")) := T.g _ (T.c.d.fact 9 (f := .glo "joined") rfl)
theorem Tx.g_parted (T : Tx K mg w) : mg "parted" = some (.ref (He.ga K "parted")) := T.g _ (T.c.d.fact 10 (f := .glo "parted") rfl)
theorem Tx.g_cut_at (T : Tx K mg w) : mg "cut_at" = some (.ref (He.ga K "cut_at")) := T.g _ (T.c.d.fact 11 (f := .glo "cut_at") rfl)
theorem Tx.g_glued (T : Tx K mg w) : mg "glued" = some (.ref (He.ga K "glued")) := T.g _ (T.c.d.fact 12 (f := .glo "glued") rfl)
theorem Tx.g_unpaired (T : Tx K mg w) : mg "unpaired" = some (.ref (He.ga K "unpaired")) := T.g _ (T.c.d.fact 13 (f := .glo "unpaired") rfl)
theorem Tx.g_passed (T : Tx K mg w) : mg "passed" = some (.ref (He.ga K "passed")) := T.g _ (T.c.d.fact 14 (f := .glo "passed") rfl)
theorem Tx.g_opened (T : Tx K mg w) : mg "opened" = some (.ref (He.ga K "opened")) := T.g _ (T.c.d.fact 15 (f := .glo "opened") rfl)
theorem Tx.g_rooted (T : Tx K mg w) : mg "rooted" = some (.ref (He.ga K "rooted")) := T.g _ (T.c.d.fact 16 (f := .glo "rooted") rfl)
theorem Tx.g_replaced (T : Tx K mg w) : mg "replaced" = some (.ref (He.ga K "replaced")) := T.g _ (T.c.d.fact 17 (f := .glo "replaced") rfl)
theorem Tx.g_done (T : Tx K mg w) : mg "done" = some (.ref (He.ga K "done")) := T.g _ (T.c.d.fact 18 (f := .glo "done") rfl)
theorem Tx.g_all_done (T : Tx K mg w) : mg "all_done" = some (.ref (He.ga K "all_done")) := T.g _ (T.c.d.fact 19 (f := .glo "all_done") rfl)
theorem Tx.g_is_block (T : Tx K mg w) : mg "is_block" = some (.ref (He.ga K "is_block")) := T.g _ (T.c.d.fact 20 (f := .glo "is_block") rfl)
theorem Tx.g_are_blocks (T : Tx K mg w) : mg "are_blocks" = some (.ref (He.ga K "are_blocks")) := T.g _ (T.c.d.fact 21 (f := .glo "are_blocks") rfl)
theorem Tx.g_undone_row (T : Tx K mg w) : mg "undone_row" = some (.ref (He.ga K "undone_row")) := T.g _ (T.c.d.fact 22 (f := .glo "undone_row") rfl)
theorem Tx.g_lead_to_nothing (T : Tx K mg w) : mg "lead_to_nothing" = some (.ref (He.ga K "lead_to_nothing")) := T.g _ (T.c.d.fact 23 (f := .glo "lead_to_nothing") rfl)
theorem Tx.g_shows_same (T : Tx K mg w) : mg "shows_same" = some (.ref (He.ga K "shows_same")) := T.g _ (T.c.d.fact 24 (f := .glo "shows_same") rfl)
theorem Tx.g_accepts (T : Tx K mg w) : mg "accepts" = some (.ref (He.ga K "accepts")) := T.g _ (T.c.d.fact 25 (f := .glo "accepts") rfl)
theorem Tx.g_law_bag (T : Tx K mg w) : mg "_law_bag" = some (.ref (He.ga K "_law_bag")) := T.g _ (T.c.d.fact 26 (f := .glo "_law_bag") rfl)
theorem Tx.g_law_take (T : Tx K mg w) : mg "_law_take" = some (.ref (He.ga K "_law_take")) := T.g _ (T.c.d.fact 27 (f := .glo "_law_take") rfl)
theorem Tx.g_law_of (T : Tx K mg w) : mg "_law_of" = some (.ref (He.ga K "_law_of")) := T.g _ (T.c.d.fact 28 (f := .glo "_law_of") rfl)
theorem Tx.g_law_back_word (T : Tx K mg w) : mg "_law_back_word" = some (.ref (He.ga K "_law_back_word")) := T.g _ (T.c.d.fact 29 (f := .glo "_law_back_word") rfl)
theorem Tx.g_law_lasting (T : Tx K mg w) : mg "_law_lasting" = some (.ref (He.ga K "_law_lasting")) := T.g _ (T.c.d.fact 30 (f := .glo "_law_lasting") rfl)
theorem Tx.g_law_part (T : Tx K mg w) : mg "_law_part" = some (.ref (He.ga K "_law_part")) := T.g _ (T.c.d.fact 31 (f := .glo "_law_part") rfl)
theorem Tx.g_law_undoing (T : Tx K mg w) : mg "_law_undoing" = some (.ref (He.ga K "_law_undoing")) := T.g _ (T.c.d.fact 32 (f := .glo "_law_undoing") rfl)
theorem Tx.g_law_nested (T : Tx K mg w) : mg "_law_nested" = some (.ref (He.ga K "_law_nested")) := T.g _ (T.c.d.fact 33 (f := .glo "_law_nested") rfl)
theorem Tx.g_law_meet (T : Tx K mg w) : mg "_law_meet" = some (.ref (He.ga K "_law_meet")) := T.g _ (T.c.d.fact 34 (f := .glo "_law_meet") rfl)
theorem Tx.g_law_in_place (T : Tx K mg w) : mg "_law_in_place" = some (.ref (He.ga K "_law_in_place")) := T.g _ (T.c.d.fact 35 (f := .glo "_law_in_place") rfl)
theorem Tx.g_law_in_word (T : Tx K mg w) : mg "_law_in_word" = some (.ref (He.ga K "_law_in_word")) := T.g _ (T.c.d.fact 36 (f := .glo "_law_in_word") rfl)
theorem Tx.g_law_stepped (T : Tx K mg w) : mg "_law_stepped" = some (.ref (He.ga K "_law_stepped")) := T.g _ (T.c.d.fact 37 (f := .glo "_law_stepped") rfl)
theorem Tx.g_law_behind (T : Tx K mg w) : mg "_law_behind" = some (.ref (He.ga K "_law_behind")) := T.g _ (T.c.d.fact 38 (f := .glo "_law_behind") rfl)
theorem Tx.g_law_short_word (T : Tx K mg w) : mg "_law_short_word" = some (.ref (He.ga K "_law_short_word")) := T.g _ (T.c.d.fact 39 (f := .glo "_law_short_word") rfl)
theorem Tx.g_law_melt (T : Tx K mg w) : mg "_law_melt" = some (.ref (He.ga K "_law_melt")) := T.g _ (T.c.d.fact 40 (f := .glo "_law_melt") rfl)
theorem Tx.g_law_paper (T : Tx K mg w) : mg "_law_paper" = some (.ref (He.ga K "_law_paper")) := T.g _ (T.c.d.fact 41 (f := .glo "_law_paper") rfl)
theorem Tx.g_law_moved (T : Tx K mg w) : mg "_law_moved" = some (.ref (He.ga K "_law_moved")) := T.g _ (T.c.d.fact 42 (f := .glo "_law_moved") rfl)
theorem Tx.g_law_papers (T : Tx K mg w) : mg "_law_papers" = some (.ref (He.ga K "_law_papers")) := T.g _ (T.c.d.fact 43 (f := .glo "_law_papers") rfl)
theorem Tx.g_law_bent (T : Tx K mg w) : mg "_law_bent" = some (.ref (He.ga K "_law_bent")) := T.g _ (T.c.d.fact 44 (f := .glo "_law_bent") rfl)
theorem Tx.g_law_cleared (T : Tx K mg w) : mg "_law_cleared" = some (.ref (He.ga K "_law_cleared")) := T.g _ (T.c.d.fact 45 (f := .glo "_law_cleared") rfl)
theorem Tx.g_law_faced (T : Tx K mg w) : mg "_law_faced" = some (.ref (He.ga K "_law_faced")) := T.g _ (T.c.d.fact 46 (f := .glo "_law_faced") rfl)
theorem Tx.g_law_letter_steps (T : Tx K mg w) : mg "_law_letter_steps" = some (.ref (He.ga K "_law_letter_steps")) := T.g _ (T.c.d.fact 47 (f := .glo "_law_letter_steps") rfl)
theorem Tx.g_law_asked_right (T : Tx K mg w) : mg "_law_asked_right" = some (.ref (He.ga K "_law_asked_right")) := T.g _ (T.c.d.fact 48 (f := .glo "_law_asked_right") rfl)
theorem Tx.g_law_moved_block (T : Tx K mg w) : mg "_law_moved_block" = some (.ref (He.ga K "_law_moved_block")) := T.g _ (T.c.d.fact 49 (f := .glo "_law_moved_block") rfl)
theorem Tx.g_law_by_letters (T : Tx K mg w) : mg "_law_by_letters" = some (.ref (He.ga K "_law_by_letters")) := T.g _ (T.c.d.fact 50 (f := .glo "_law_by_letters") rfl)
theorem Tx.g_law_right (T : Tx K mg w) : mg "_law_right" = some (.ref (He.ga K "_law_right")) := T.g _ (T.c.d.fact 51 (f := .glo "_law_right") rfl)
theorem Tx.g_law (T : Tx K mg w) : mg "law" = some (.ref (He.ga K "law")) := T.g _ (T.c.d.fact 52 (f := .glo "law") rfl)
theorem Tx.f_isinstance (T : Tx K mg w) : mg "isinstance" = none := T.f _ (T.c.d.fact 53 (f := .free "isinstance") rfl)
theorem Tx.f_int (T : Tx K mg w) : mg "int" = none := T.f _ (T.c.d.fact 54 (f := .free "int") rfl)
theorem Tx.f_bool (T : Tx K mg w) : mg "bool" = none := T.f _ (T.c.d.fact 55 (f := .free "bool") rfl)
theorem Tx.f_str (T : Tx K mg w) : mg "str" = none := T.f _ (T.c.d.fact 56 (f := .free "str") rfl)
theorem Tx.f_tuple (T : Tx K mg w) : mg "tuple" = none := T.f _ (T.c.d.fact 57 (f := .free "tuple") rfl)
theorem Tx.f_list (T : Tx K mg w) : mg "list" = none := T.f _ (T.c.d.fact 58 (f := .free "list") rfl)
theorem Tx.f_len (T : Tx K mg w) : mg "len" = none := T.f _ (T.c.d.fact 59 (f := .free "len") rfl)
theorem Tx.f_all (T : Tx K mg w) : mg "all" = none := T.f _ (T.c.d.fact 60 (f := .free "all") rfl)
theorem Tx.f_range (T : Tx K mg w) : mg "range" = none := T.f _ (T.c.d.fact 61 (f := .free "range") rfl)
theorem Tx.f_max (T : Tx K mg w) : mg "max" = none := T.f _ (T.c.d.fact 62 (f := .free "max") rfl)
theorem Tx.f_min (T : Tx K mg w) : mg "min" = none := T.f _ (T.c.d.fact 63 (f := .free "min") rfl)
theorem Tx.f_abs (T : Tx K mg w) : mg "abs" = none := T.f _ (T.c.d.fact 64 (f := .free "abs") rfl)
theorem Tx.f_divmod (T : Tx K mg w) : mg "divmod" = none := T.f _ (T.c.d.fact 65 (f := .free "divmod") rfl)
theorem Tx.f_repr (T : Tx K mg w) : mg "repr" = none := T.f _ (T.c.d.fact 66 (f := .free "repr") rfl)
theorem Tx.i_MOST_BLOCKS (T : Tx K mg w) : ∃ u, mg "MOST_BLOCKS" = some u ∧ RelV (.int 12) u := let ⟨t, e⟩ := T.i _ _ (T.c.d.fact 67 (f := .int "MOST_BLOCKS" 12) rfl); ⟨_, e, t, rfl⟩
theorem Tx.i_MOST_WORD (T : Tx K mg w) : ∃ u, mg "MOST_WORD" = some u ∧ RelV (.int 12) u := let ⟨t, e⟩ := T.i _ _ (T.c.d.fact 68 (f := .int "MOST_WORD" 12) rfl); ⟨_, e, t, rfl⟩
theorem Tx.i_MOST_TIMES (T : Tx K mg w) : ∃ u, mg "MOST_TIMES" = some u ∧ RelV (.int 9) u := let ⟨t, e⟩ := T.i _ _ (T.c.d.fact 69 (f := .int "MOST_TIMES" 9) rfl); ⟨_, e, t, rfl⟩
theorem Tx.i_MOST_MORE (T : Tx K mg w) : ∃ u, mg "MOST_MORE" = some u ∧ RelV (.int 99) u := let ⟨t, e⟩ := T.i _ _ (T.c.d.fact 70 (f := .int "MOST_MORE" 99) rfl); ⟨_, e, t, rfl⟩
theorem Tx.i_ITEMS (T : Tx K mg w) : ∃ u, mg "ITEMS" = some u ∧ RelV (.int 3) u := let ⟨t, e⟩ := T.i _ _ (T.c.d.fact 71 (f := .int "ITEMS" 3) rfl); ⟨_, e, t, rfl⟩
theorem Tx.s_LETTERS (T : Tx K mg w) : ∃ u, mg "LETTERS" = some u ∧ RelV (.str "abcdefABCDEF") u := let ⟨t, e⟩ := T.s _ _ (T.c.d.fact 72 (f := .str "LETTERS" "abcdefABCDEF") rfl); ⟨_, e, t, rfl⟩
theorem Tx.g_SIZES (T : Tx K mg w) : mg "SIZES" = some (.ref (He.ga K "SIZES")) := T.g _ (T.c.d.fact 73 (f := .glo "SIZES") rfl)
theorem Tx.g_PAIRS (T : Tx K mg w) : mg "PAIRS" = some (.ref (He.ga K "PAIRS")) := T.g _ (T.c.d.fact 74 (f := .glo "PAIRS") rfl)
theorem Tx.g_JUDGES (T : Tx K mg w) : mg "JUDGES" = some (.ref (He.ga K "JUDGES")) := T.g _ (T.c.d.fact 75 (f := .glo "JUDGES") rfl)
theorem Tx.e_is_integer (T : Tx K mg w) : ∃ fd, FunD K "is_integer" "is_integer" (defArgs s_is_integer) (defBody s_is_integer) (defScope s_is_integer) [] [] (He.ga K "is_integer") fd := T.c.d.def_ 0 (d := d_is_integer) rfl
theorem Tx.e_is_between (T : Tx K mg w) : ∃ fd, FunD K "is_between" "is_between" (defArgs s_is_between) (defBody s_is_between) (defScope s_is_between) [] [] (He.ga K "is_between") fd := T.c.d.def_ 1 (d := d_is_between) rfl
theorem Tx.e_is_word (T : Tx K mg w) : ∃ fd, FunD K "is_word" "is_word" (defArgs s_is_word) (defBody s_is_word) (defScope s_is_word) [] [] (He.ga K "is_word") fd := T.c.d.def_ 2 (d := d_is_word) rfl
theorem Tx.e_do_undo (T : Tx K mg w) : ∃ fd, FunD K "do_undo" "do_undo" (defArgs s_do_undo) (defBody s_do_undo) (defScope s_do_undo) [] [] (He.ga K "do_undo") fd := T.c.d.def_ 3 (d := d_do_undo) rfl
theorem Tx.e_undone_word (T : Tx K mg w) : ∃ fd, FunD K "undone_word" "undone_word" (defArgs s_undone_word) (defBody s_undone_word) (defScope s_undone_word) [] [] (He.ga K "undone_word") fd := T.c.d.def_ 4 (d := d_undone_word) rfl
theorem Tx.e_is_plain (T : Tx K mg w) : ∃ fd, FunD K "is_plain" "is_plain" (defArgs s_is_plain) (defBody s_is_plain) (defScope s_is_plain) [] [] (He.ga K "is_plain") fd := T.c.d.def_ 5 (d := d_is_plain) rfl
theorem Tx.e_is_step (T : Tx K mg w) : ∃ fd, FunD K "is_step" "is_step" (defArgs s_is_step) (defBody s_is_step) (defScope s_is_step) [] [] (He.ga K "is_step") fd := T.c.d.def_ 6 (d := d_is_step) rfl
theorem Tx.e_left_out (T : Tx K mg w) : ∃ fd, FunD K "left_out" "left_out" (defArgs s_left_out) (defBody s_left_out) (defScope s_left_out) [] [] (He.ga K "left_out") fd := T.c.d.def_ 7 (d := d_left_out) rfl
theorem Tx.e_turned (T : Tx K mg w) : ∃ fd, FunD K "turned" "turned" (defArgs s_turned) (defBody s_turned) (defScope s_turned) [] [] (He.ga K "turned") fd := T.c.d.def_ 8 (d := d_turned) rfl
theorem Tx.e_joined (T : Tx K mg w) : ∃ fd, FunD K "joined" "joined" (defArgs s_joined) (defBody s_joined) (defScope s_joined) [] [] (He.ga K "joined") fd := T.c.d.def_ 9 (d := d_joined) rfl
theorem Tx.e_parted (T : Tx K mg w) : ∃ fd, FunD K "parted" "parted" (defArgs s_parted) (defBody s_parted) (defScope s_parted) [] [] (He.ga K "parted") fd := T.c.d.def_ 10 (d := d_parted) rfl
theorem Tx.e_cut_at (T : Tx K mg w) : ∃ fd, FunD K "cut_at" "cut_at" (defArgs s_cut_at) (defBody s_cut_at) (defScope s_cut_at) [] [] (He.ga K "cut_at") fd := T.c.d.def_ 11 (d := d_cut_at) rfl
theorem Tx.e_glued (T : Tx K mg w) : ∃ fd, FunD K "glued" "glued" (defArgs s_glued) (defBody s_glued) (defScope s_glued) [] [] (He.ga K "glued") fd := T.c.d.def_ 12 (d := d_glued) rfl
theorem Tx.e_unpaired (T : Tx K mg w) : ∃ fd, FunD K "unpaired" "unpaired" (defArgs s_unpaired) (defBody s_unpaired) (defScope s_unpaired) [] [] (He.ga K "unpaired") fd := T.c.d.def_ 13 (d := d_unpaired) rfl
theorem Tx.e_passed (T : Tx K mg w) : ∃ fd, FunD K "passed" "passed" (defArgs s_passed) (defBody s_passed) (defScope s_passed) [] [] (He.ga K "passed") fd := T.c.d.def_ 14 (d := d_passed) rfl
theorem Tx.e_opened (T : Tx K mg w) : ∃ fd, FunD K "opened" "opened" (defArgs s_opened) (defBody s_opened) (defScope s_opened) [] [] (He.ga K "opened") fd := T.c.d.def_ 15 (d := d_opened) rfl
theorem Tx.e_rooted (T : Tx K mg w) : ∃ fd, FunD K "rooted" "rooted" (defArgs s_rooted) (defBody s_rooted) (defScope s_rooted) [] [] (He.ga K "rooted") fd := T.c.d.def_ 16 (d := d_rooted) rfl
theorem Tx.e_replaced (T : Tx K mg w) : ∃ fd, FunD K "replaced" "replaced" (defArgs s_replaced) (defBody s_replaced) (defScope s_replaced) [] [] (He.ga K "replaced") fd := T.c.d.def_ 17 (d := d_replaced) rfl
theorem Tx.e_done (T : Tx K mg w) : ∃ fd, FunD K "done" "done" (defArgs s_done) (defBody s_done) (defScope s_done) [] [] (He.ga K "done") fd := T.c.d.def_ 18 (d := d_done) rfl
theorem Tx.e_all_done (T : Tx K mg w) : ∃ fd, FunD K "all_done" "all_done" (defArgs s_all_done) (defBody s_all_done) (defScope s_all_done) [] [] (He.ga K "all_done") fd := T.c.d.def_ 19 (d := d_all_done) rfl
theorem Tx.e_is_block (T : Tx K mg w) : ∃ fd, FunD K "is_block" "is_block" (defArgs s_is_block) (defBody s_is_block) (defScope s_is_block) [] [] (He.ga K "is_block") fd := T.c.d.def_ 20 (d := d_is_block) rfl
theorem Tx.e_are_blocks (T : Tx K mg w) : ∃ fd, FunD K "are_blocks" "are_blocks" (defArgs s_are_blocks) (defBody s_are_blocks) (defScope s_are_blocks) [] [] (He.ga K "are_blocks") fd := T.c.d.def_ 21 (d := d_are_blocks) rfl
theorem Tx.e_undone_row (T : Tx K mg w) : ∃ fd, FunD K "undone_row" "undone_row" (defArgs s_undone_row) (defBody s_undone_row) (defScope s_undone_row) [] [] (He.ga K "undone_row") fd := T.c.d.def_ 22 (d := d_undone_row) rfl
theorem Tx.e_lead_to_nothing (T : Tx K mg w) : ∃ fd, FunD K "lead_to_nothing" "lead_to_nothing" (defArgs s_lead_to_nothing) (defBody s_lead_to_nothing) (defScope s_lead_to_nothing) [] [] (He.ga K "lead_to_nothing") fd := T.c.d.def_ 23 (d := d_lead_to_nothing) rfl
theorem Tx.e_shows_same (T : Tx K mg w) : ∃ fd, FunD K "shows_same" "shows_same" (defArgs s_shows_same) (defBody s_shows_same) (defScope s_shows_same) [] [] (He.ga K "shows_same") fd := T.c.d.def_ 24 (d := d_shows_same) rfl
theorem Tx.e_accepts (T : Tx K mg w) : ∃ fd, FunD K "accepts" "accepts" (defArgs s_accepts) (defBody s_accepts) (defScope s_accepts) [] [] (He.ga K "accepts") fd := T.c.d.def_ 25 (d := d_accepts) rfl
theorem Tx.e_law_bag (T : Tx K mg w) : ∃ fd, FunD K "_law_bag" "_law_bag" (defArgs s_law_bag) (defBody s_law_bag) (defScope s_law_bag) [] [] (He.ga K "_law_bag") fd := T.c.d.def_ 26 (d := d_law_bag) rfl
theorem Tx.e_law_take (T : Tx K mg w) : ∃ fd, FunD K "_law_take" "_law_take" (defArgs s_law_take) (defBody s_law_take) (defScope s_law_take) [] [] (He.ga K "_law_take") fd := T.c.d.def_ 27 (d := d_law_take) rfl
theorem Tx.e_law_of (T : Tx K mg w) : ∃ fd, FunD K "_law_of" "_law_of" (defArgs s_law_of) (defBody s_law_of) (defScope s_law_of) [] [] (He.ga K "_law_of") fd := T.c.d.def_ 28 (d := d_law_of) rfl
theorem Tx.e_law_back_word (T : Tx K mg w) : ∃ fd, FunD K "_law_back_word" "_law_back_word" (defArgs s_law_back_word) (defBody s_law_back_word) (defScope s_law_back_word) [] [] (He.ga K "_law_back_word") fd := T.c.d.def_ 29 (d := d_law_back_word) rfl
theorem Tx.e_law_lasting (T : Tx K mg w) : ∃ fd, FunD K "_law_lasting" "_law_lasting" (defArgs s_law_lasting) (defBody s_law_lasting) (defScope s_law_lasting) [] [] (He.ga K "_law_lasting") fd := T.c.d.def_ 30 (d := d_law_lasting) rfl
theorem Tx.e_law_part (T : Tx K mg w) : ∃ fd, FunD K "_law_part" "_law_part" (defArgs s_law_part) (defBody s_law_part) (defScope s_law_part) [] [] (He.ga K "_law_part") fd := T.c.d.def_ 31 (d := d_law_part) rfl
theorem Tx.e_law_undoing (T : Tx K mg w) : ∃ fd, FunD K "_law_undoing" "_law_undoing" (defArgs s_law_undoing) (defBody s_law_undoing) (defScope s_law_undoing) [] [] (He.ga K "_law_undoing") fd := T.c.d.def_ 32 (d := d_law_undoing) rfl
theorem Tx.e_law_nested (T : Tx K mg w) : ∃ fd, FunD K "_law_nested" "_law_nested" (defArgs s_law_nested) (defBody s_law_nested) (defScope s_law_nested) [] [] (He.ga K "_law_nested") fd := T.c.d.def_ 33 (d := d_law_nested) rfl
theorem Tx.e_law_meet (T : Tx K mg w) : ∃ fd, FunD K "_law_meet" "_law_meet" (defArgs s_law_meet) (defBody s_law_meet) (defScope s_law_meet) [] [] (He.ga K "_law_meet") fd := T.c.d.def_ 34 (d := d_law_meet) rfl
theorem Tx.e_law_in_place (T : Tx K mg w) : ∃ fd, FunD K "_law_in_place" "_law_in_place" (defArgs s_law_in_place) (defBody s_law_in_place) (defScope s_law_in_place) [] [] (He.ga K "_law_in_place") fd := T.c.d.def_ 35 (d := d_law_in_place) rfl
theorem Tx.e_law_in_word (T : Tx K mg w) : ∃ fd, FunD K "_law_in_word" "_law_in_word" (defArgs s_law_in_word) (defBody s_law_in_word) (defScope s_law_in_word) [] [] (He.ga K "_law_in_word") fd := T.c.d.def_ 36 (d := d_law_in_word) rfl
theorem Tx.e_law_stepped (T : Tx K mg w) : ∃ fd, FunD K "_law_stepped" "_law_stepped" (defArgs s_law_stepped) (defBody s_law_stepped) (defScope s_law_stepped) [] [] (He.ga K "_law_stepped") fd := T.c.d.def_ 37 (d := d_law_stepped) rfl
theorem Tx.e_law_behind (T : Tx K mg w) : ∃ fd, FunD K "_law_behind" "_law_behind" (defArgs s_law_behind) (defBody s_law_behind) (defScope s_law_behind) [] [] (He.ga K "_law_behind") fd := T.c.d.def_ 38 (d := d_law_behind) rfl
theorem Tx.e_law_short_word (T : Tx K mg w) : ∃ fd, FunD K "_law_short_word" "_law_short_word" (defArgs s_law_short_word) (defBody s_law_short_word) (defScope s_law_short_word) [] [] (He.ga K "_law_short_word") fd := T.c.d.def_ 39 (d := d_law_short_word) rfl
theorem Tx.e_law_melt (T : Tx K mg w) : ∃ fd, FunD K "_law_melt" "_law_melt" (defArgs s_law_melt) (defBody s_law_melt) (defScope s_law_melt) [] [] (He.ga K "_law_melt") fd := T.c.d.def_ 40 (d := d_law_melt) rfl
theorem Tx.e_law_paper (T : Tx K mg w) : ∃ fd, FunD K "_law_paper" "_law_paper" (defArgs s_law_paper) (defBody s_law_paper) (defScope s_law_paper) [] [] (He.ga K "_law_paper") fd := T.c.d.def_ 41 (d := d_law_paper) rfl
theorem Tx.e_law_moved (T : Tx K mg w) : ∃ fd, FunD K "_law_moved" "_law_moved" (defArgs s_law_moved) (defBody s_law_moved) (defScope s_law_moved) [] [] (He.ga K "_law_moved") fd := T.c.d.def_ 42 (d := d_law_moved) rfl
theorem Tx.e_law_papers (T : Tx K mg w) : ∃ fd, FunD K "_law_papers" "_law_papers" (defArgs s_law_papers) (defBody s_law_papers) (defScope s_law_papers) [] [] (He.ga K "_law_papers") fd := T.c.d.def_ 43 (d := d_law_papers) rfl
theorem Tx.e_law_bent (T : Tx K mg w) : ∃ fd, FunD K "_law_bent" "_law_bent" (defArgs s_law_bent) (defBody s_law_bent) (defScope s_law_bent) [] [] (He.ga K "_law_bent") fd := T.c.d.def_ 44 (d := d_law_bent) rfl
theorem Tx.e_law_cleared (T : Tx K mg w) : ∃ fd, FunD K "_law_cleared" "_law_cleared" (defArgs s_law_cleared) (defBody s_law_cleared) (defScope s_law_cleared) [] [] (He.ga K "_law_cleared") fd := T.c.d.def_ 45 (d := d_law_cleared) rfl
theorem Tx.e_law_faced (T : Tx K mg w) : ∃ fd, FunD K "_law_faced" "_law_faced" (defArgs s_law_faced) (defBody s_law_faced) (defScope s_law_faced) [] [] (He.ga K "_law_faced") fd := T.c.d.def_ 46 (d := d_law_faced) rfl
theorem Tx.e_law_letter_steps (T : Tx K mg w) : ∃ fd, FunD K "_law_letter_steps" "_law_letter_steps" (defArgs s_law_letter_steps) (defBody s_law_letter_steps) (defScope s_law_letter_steps) [] [] (He.ga K "_law_letter_steps") fd := T.c.d.def_ 47 (d := d_law_letter_steps) rfl
theorem Tx.e_law_asked_right (T : Tx K mg w) : ∃ fd, FunD K "_law_asked_right" "_law_asked_right" (defArgs s_law_asked_right) (defBody s_law_asked_right) (defScope s_law_asked_right) [] [] (He.ga K "_law_asked_right") fd := T.c.d.def_ 48 (d := d_law_asked_right) rfl
theorem Tx.e_law_moved_block (T : Tx K mg w) : ∃ fd, FunD K "_law_moved_block" "_law_moved_block" (defArgs s_law_moved_block) (defBody s_law_moved_block) (defScope s_law_moved_block) [] [] (He.ga K "_law_moved_block") fd := T.c.d.def_ 49 (d := d_law_moved_block) rfl
theorem Tx.e_law_by_letters (T : Tx K mg w) : ∃ fd, FunD K "_law_by_letters" "_law_by_letters" (defArgs s_law_by_letters) (defBody s_law_by_letters) (defScope s_law_by_letters) [] [] (He.ga K "_law_by_letters") fd := T.c.d.def_ 50 (d := d_law_by_letters) rfl
theorem Tx.e_law_right (T : Tx K mg w) : ∃ fd, FunD K "_law_right" "_law_right" (defArgs s_law_right) (defBody s_law_right) (defScope s_law_right) [] [] (He.ga K "_law_right") fd := T.c.d.def_ 51 (d := d_law_right) rfl
theorem Tx.e_law (T : Tx K mg w) : ∃ fd, FunD K "law" "law" (defArgs s_law) (defBody s_law) (defScope s_law) [] [] (He.ga K "law") fd := T.c.d.def_ 52 (d := d_law) rfl
/-! ### a def that may be called by its name -/
structure Cal (P : Program) (w : World) (K : PySem.W.Frag) (mg : Str → Option Value) (base : Heap) (k : Nat) (x : Str) (ps : List Str) (sp : Sp) : Prop where
  ex : ∃ (f : Addr) (fd : FuncData), FnOk P w K mg base CX0 k f fd ps sp ∧ mg x = some (.ref f) ∧ PySem.W.keepIn K (.ref f) = true ∧ Binds K fd ps []
variable {P : Program} {base : Heap}
theorem calG {x : Str} {st : Stmt} {N ps : List Str} {k : Nat} {α : Type} {ar : α → Res → List Da} {pre : α → Res → Prop} {post : α → Da → Prop} (F : ∃ fd, FunD K x x (defArgs st) (defBody st) (defScope st) [] [] (He.ga K x) fd) (hm : mg x = some (.ref (He.ga K x))) (S : FnScope N ps (defScope st))
    (bd : ∀ (kV doc pm : Value) (an : Option Addr) (cdv ct : Value) (us : List Value), us.length = ps.length → bindArgs (PySem.W.fnOf x x (defArgs st) (defBody st) (defScope st) .none kV doc pm an cdv ct) ⟨us, []⟩ = pure (ps.zip us)) (hlen : ∀ a r, (ar a r).length = ps.length)
    (hbody : ∀ (f : Addr) (cdv : Value) (A : Around) (outer : List Env) (s : Shared) (H : Hp) (E : XK), Room k (A.deeper (envOfC x (defScope st) s.heap.objs.size f cdv)) →
      ∃ t, PSs (cxOf CX0 P w K mg base N x (defScope st) f cdv A outer s H E).nox (defBody st) t ∧ ∀ (a : α) (r : Res) (F0 : List Addr) (H0 : Hp) (D : Ends), pre a r → Rt ⟨K, F0, r, H0, post a⟩ D → Go ⟨K, F0, r, H0, post a⟩ none (startD N.length (ar a r)) t D) :
    Cal P w K mg base (k + 1) x ps (spG K ar pre post) := by
  obtain ⟨fd, F⟩ := F
  exact ⟨_, fd, okG F S hlen (fun cdv A outer s H E hr => hbody _ cdv A outer s H E hr), hm, F.kp, FunD.bindsN F bd⟩
end
section
variable {X : Cx} {k j : Nat} {x : Str} {ps : List Str} {sp : Sp} {p pos : Pos} {e : Expr} {es : List Expr} {t : TA}
theorem pe_c (c : Cal X.prog X.w X.K X.mg X.base k x ps sp) (hr : Room j X.A) (hk : k ≤ j) (hg : Gl X x) (ha : PA X (e :: es) t)
    (hdb : (x == ("__debug__" : Str)) = false := by decide) (he : starEach (e :: es) X.env = (false, eval e X.env) :: starEach es X.env := by rfl) (hpl : (backTo pos (starEach es X.env)).any (·.1) = false := by rfl) :
    PE X (.Call (.Name x p) (e :: es) [] pos) (tCall sp [] E0 t) := by
  obtain ⟨f, fd, F, hm, kp, b⟩ := c.ex
  exact pe_call F (hr.mono hk) hg hm kp b .nil pass0 ha hdb he hpl
/-- a name of the module, by its value -/
theorem pe_gc {v : V} (hg : Gl X x) (h : ∃ u, X.mg x = some u ∧ RelV v u) (hd : (x == ("__debug__" : Str)) = false := by decide) : PE X (.Name x pos) (tC v) := by
  obtain ⟨u, hm, r⟩ := h
  exact pe_glob hg hm r hd
end
end Kn

set_option Elab.async false
set_option linter.all false
set_option maxRecDepth 100000
set_option maxHeartbeats 4000000
/-! Rules of our own for what the layer lacks. -/
namespace Kn
open PySem PySem.Spec PyProof.Rows L2
section
variable {X : Cx}
/-! ### text[::-1] -/
theorem revS_ix (x : Str) : (Builtin.Str.strSliceIndices none none (-1) x.length).filterMap (x.cps[·]?) = x.cps.toList.reverse := by
  have e : Builtin.Str.strSliceIndices none none (-1) x.length = sliceRange ((x.cps.size : Int) - 1) (-1) (-1) := by
    unfold Builtin.Str.strSliceIndices
    rfl
  rw [e, PySem.W.krv_sliceRange, PySem.W.krv_range, List.filterMap_reverse, PySem.W.krv_all]
def revS (x : Str) : Str := ⟨x.cps.toList.reverse.toArray⟩
def tRevS (te : TE) : TE := fun σ H Q => te σ H fun x H1 => ∃ z, x = .str z ∧ z.length ≤ sizeLine ∧ Q (.str (revS z)) H1
theorem pe_revS {e : Expr} {te : TE} {k : Nat} {p1 p2 p3 pos : Pos} (he : PE X e te) : PE X (.Subscript e (.Slice none none (some (.UnaryOp .USub (.Constant (.int 1) k p1) p2)) p3) pos) (tRevS te) := by
  refine ⟨fun pins s σ H Q I h => Subscript_ (thn (he.run pins s σ H _ I h) fun v s1 ⟨x, H1, I1, r1, q1⟩ => ?_)⟩
  obtain ⟨z, ex, hz, q⟩ := q1
  subst ex
  obtain ⟨t, rfl⟩ := r1
  have hst : PO X (some (.UnaryOp .USub (.Constant (.int 1) k p1) p2)) (tPart (tUn (rU fun i => .int (-i)) (tC (.int 1)))) := po_some (pe_un un_neg pe_int)
  refine wpAny_Slice (thn (po_none.run pins s1 σ H1 (fun o H2 => o = none ∧ H2 = H1) I1 ⟨rfl, rfl⟩) fun vl s2 ⟨l, H2, I2, pl, z1, z2⟩ => ?_)
  subst z1 z2
  refine thn (po_none.run pins s2 σ H2 (fun o H3 => o = none ∧ H3 = H2) I2 ⟨rfl, rfl⟩) fun vu s3 ⟨u, H3, I3, pu, z3, z4⟩ => ?_
  subst z3 z4
  refine thn (hst.run pins s3 σ H3 (fun o H4 => o = some (-1) ∧ H4 = H3) I3 ⟨1, rfl, -1, rfl, rfl, rfl⟩) fun vs s4 ⟨o, H4, I4, ps, z5, z6⟩ => ?_
  subst z5 z6
  cases pl
  cases pu
  cases ps with
  | int _ ts =>
    refine tail_any (ops := [.str z t, .ref s4.heap.objs.size]) (typeIs_str _ z t) F.slot_str_getitem.lookup ?_ (by with_unfolding_all rfl)
    refine wpAny_getItem_str_slice (l := none) (u := none) (st := some (-1, ts)) ⟨_, Heap.get?_push_size _ rfl, rfl, rfl⟩ rfl ?_
    have I5 : Inv X pins σ H4 { s4 with heap := s4.heap.push { cls := .type "slice", data := .fields #[.none, .none, .int (-1) ts] } } := I4.kept (t' := s4.toks) fun b ob q => Heap.get?_push_of_some _ q
    show Made.post (if (((-1 : Int)) == 1 && (Builtin.Str.strSliceIndices none none (-1) z.length).length == z.length) = true then Made.val (.str z t) else Made.str ⟨((Builtin.Str.strSliceIndices none none (-1) z.length).filterMap (z.cps[·]?)).toArray⟩) _ _
    rw [if_neg (by simp), revS_ix]
    refine ⟨?_, .str _, H4, I5.tok _, ⟨_, rfl⟩, q⟩
    show (z.cps.toList.reverse.toArray).size ≤ sizeLine
    rw [List.size_toArray, List.length_reverse, Array.length_toList]
    exact hz
/-! ### tuple[::-1] -/
theorem rev_applied {prog : Program} {w : World} {A : Around} {E : Value → Shared → Prop} {s : Shared} {sl : Addr} {ts : Tok} {n : Nat} {Q : Int × Int × Nat → Shared → Prop} (hs : s.heap.IsSliceOf sl .none .none (.int (-1) ts)) (h : Q ((n : Int) - 1, -1, n) s) :
    wpAny (model prog w) A (Builtin.Slice.sliceApplied (.ref sl) (pure (n : Int))) Q E s := by
  obtain ⟨os, hos, hcs, hds⟩ := id hs
  unfold Builtin.Slice.sliceApplied Builtin.Slice.sliceFields
  refine wpAny_bind (wpAny_bind (wpAny_field hos hds (x := .none) rfl (wpAny_bind (wpAny_field hos hds (x := .none) rfl (wpAny_bind (wpAny_field hos hds (x := .int (-1) ts) rfl (wpAny_pure ?_)))))))
  refine wpAny_bind (slicePart_int ?_)
  show wpAny _ _ (if ((-1 : Int) == 0) = true then _ else _) _ _ s
  rw [if_neg (by decide)]
  refine wpAny_bind (slicePart_none (wpAny_bind (slicePart_none (wpAny_bind (wpAny_pure ?_)))))
  have e : Builtin.Slice.slicePlaces ((n : Int) - 1) (-1) (-1) = n := by
    unfold Builtin.Slice.slicePlaces
    have h1 : ¬ ((-1 : Int) > 0) := by decide
    simp only [h1, if_false]
    by_cases h2 : (n : Int) - 1 > -1
    · rw [if_pos h2, show (- -1 : Int) = 1 by decide, Int.ediv_one]
      omega
    · rw [if_neg h2]
      show (0 : Int).toNat = n
      omega
  show wpAny _ _ (pure (((n : Int) - 1), (-1 : Int), Builtin.Slice.slicePlaces ((n : Int) - 1) (-1) (-1))) _ _ s
  rw [e]
  exact wpAny_pure h
theorem rev_pick (xs : Array Value) : ((List.range xs.size).filterMap fun (m : Nat) => xs[(((xs.size : Nat) : Int) - 1 + (m : Int) * (-1)).toNat]?).toArray = xs.toList.reverse.toArray := by
  have e : (fun (m : Nat) => xs[(((xs.size : Nat) : Int) - 1 + (m : Int) * (-1)).toNat]?) = (fun i => xs[i]?) ∘ fun m => xs.size - 1 - m := by
    funext m
    show xs[(((xs.size : Nat) : Int) - 1 + (m : Int) * (-1)).toNat]? = xs[xs.size - 1 - m]?
    have : (((xs.size : Nat) : Int) - 1 + (m : Int) * (-1)).toNat = xs.size - 1 - m := by omega
    rw [this]
  rw [e, ← List.filterMap_map, PySem.W.krv_range, List.filterMap_reverse, PySem.W.krv_all]
theorem tuple_rev {prog : Program} {w : World} {A : Around} {E : Value → Shared → Prop} {s : Shared} {t sl : Addr} {items : Array Value} {ts : Tok} {Q : Value → Shared → Prop} (ht : IsTup s.heap t items) (hs : s.heap.IsSliceOf sl .none .none (.int (-1) ts))
    (h : Q (.ref s.heap.objs.size) { s with heap := s.heap.push { cls := .type "tuple", data := .seq items.toList.reverse.toArray } }) (hsz : items.size ≤ sizeLine) : wpAny (model prog w) A (getItem (.ref t) (.ref sl)) Q E s := by
  have htake : sizeOk (.seq items.toList.reverse.toArray) := by
    show (items.toList.reverse.toArray).size ≤ sizeLine
    rw [List.size_toArray, List.length_reverse, Array.length_toList]
    exact hsz
  obtain ⟨os, hos, hcs, hds⟩ := id hs
  have hTs : s.TypeIs (.ref sl) "slice" := ⟨os, hos, hcs⟩
  unfold getItem
  try with_reducible refine wpAny_holding ?_
  first | refine wpAny_bind (wpAny_pure ?_) | skip
  refine wpAny_bind (wpAny_sequenceKey ht.typeIs (by decide) ?_)
  refine wpAny_bind (wpAny_callSpecial?_slot (name := Str.ofString "__getitem__") ht.typeIs PyProof.Rows.slot_tuple_getitem (wpAny_call_entry PyProof.Rows.slot_tuple_getitem ht.typeIs entry_tuple_getitem ?_ (args_tuple_getitem _ _)))
  show wpAny _ _ (Builtin.Tuple.tupleItemsOf (.ref t) >>= _) _ _ s
  refine wpAny_bind (PyProof.Rows.tupleItemsOf_ ht ?_)
  refine wpAny_bind (wpAny_typeOf hTs ?_)
  rw [if_pos (by decide)]
  refine wpAny_bind (rev_applied hs ?_)
  have hno : ¬ ((((items.size : Nat) : Int) - 1 == 0 && (-1 : Int) == 1 && items.size == items.size) = true) := by
    intro q
    rw [Bool.and_eq_true, Bool.and_eq_true] at q
    exact absurd (eq_of_beq q.1.2) (by decide)
  show wpAny _ _ (if (((items.size : Nat) : Int) - 1 == 0 && (-1 : Int) == 1 && items.size == items.size) = true then _ else _) _ _ s
  rw [if_neg hno, rev_pick]
  first
    | exact wpAny_bind (m := Builtin.Tuple.tupleExact _) (wpAny_newObj_type (wpAny_pure ⟨_, rfl, wpAny_pure h⟩) htake)
    | exact wpAny_bind (m := Builtin.Tuple.tupleExact _) (wpAny_newObj_type (wpAny_bind (wpAny_pure (wpAny_pure ⟨_, rfl, wpAny_pure h⟩))) htake)
    | exact wpAny_bind (wpAny_bind (m := Builtin.Tuple.tupleExact _) (wpAny_newObj_type (wpAny_pure (wpAny_pure ⟨_, rfl, wpAny_pure h⟩)) htake))
    | exact wpAny_bind (wpAny_bind (m := Builtin.Tuple.tupleExact _) (wpAny_newObj_type (wpAny_pure ⟨_, rfl, wpAny_pure h⟩) htake))
def tRevT (K : PySem.W.Frag) (te : TE) : TE := fun σ H Q => te σ H fun x H1 => ∃ a xs, x = .ref a ∧ SqT K H1 a xs ∧ ∀ p, H1 p = none → Q (.ref p) (upd H1 p (.tup xs.reverse))
theorem pe_revT {e : Expr} {te : TE} {k : Nat} {p1 p2 p3 pos : Pos} (he : PE X e te) : PE X (.Subscript e (.Slice none none (some (.UnaryOp .USub (.Constant (.int 1) k p1) p2)) p3) pos) (tRevT X.K te) := by
  refine ⟨fun pins s σ H Q I h => Subscript_ (thn (he.run pins s σ H _ I h) fun v s1 ⟨x, H1, I1, r1, q1⟩ => ?_)⟩
  obtain ⟨a, xs, ex, hx, q⟩ := q1
  subst ex
  cases r1
  have hst : PO X (some (.UnaryOp .USub (.Constant (.int 1) k p1) p2)) (tPart (tUn (rU fun i => .int (-i)) (tC (.int 1)))) := po_some (pe_un un_neg pe_int)
  refine wpAny_Slice (thn (po_none.run pins s1 σ H1 (fun o H2 => o = none ∧ H2 = H1) I1 ⟨rfl, rfl⟩) fun vl s2 ⟨l, H2, I2, pl, z1, z2⟩ => ?_)
  subst z1 z2
  refine thn (po_none.run pins s2 σ H2 (fun o H3 => o = none ∧ H3 = H2) I2 ⟨rfl, rfl⟩) fun vu s3 ⟨u, H3, I3, pu, z3, z4⟩ => ?_
  subst z3 z4
  refine thn (hst.run pins s3 σ H3 (fun o H4 => o = some (-1) ∧ H4 = H3) I3 ⟨1, rfl, -1, rfl, rfl, rfl⟩) fun vs s4 ⟨o, H4, I4, ps, z5, z6⟩ => ?_
  subst z5 z6
  cases pl
  cases pu
  cases ps with
  | int _ ts =>
    have I5 : Inv X pins σ H4 { s4 with heap := s4.heap.push { cls := .type "slice", data := .fields #[.none, .none, .int (-1) ts] } } := I4.kept (t' := s4.toks) fun b ob q => Heap.get?_push_of_some _ q
    obtain ⟨its, r, ht, hz⟩ := I5.tuple hx
    have hl := r.length
    refine tail_any (ops := [.ref a, .ref s4.heap.objs.size]) ht.typeIs PyProof.Rows.slot_tuple_getitem.lookup ?_ (by with_unfolding_all rfl)
    refine tuple_rev ht (Heap.IsSliceOf.new _ _ _ _) ?_ (by rw [List.size_toArray]; omega)
    refine ⟨.ref _, _, I5.laid (t' := s4.toks) (o := .tup xs.reverse) (fun b ob q => Heap.get?_push_of_some _ q) (Nat.le_refl _) ?_, rfl, q _ (I5.hok.fresh (Nat.le_refl _))⟩
    exact ⟨by rw [List.length_reverse]; exact hz, _, r.reverse, IsTup.new _ _⟩
/-! ### text * int -/
def repS (z : Str) (k : Int) : Str := ⟨((List.replicate k.toNat z.cps.toList).flatten).toArray⟩
theorem fold_app (l : List (Array Nat)) : ∀ a : Array Nat, (l.foldl (· ++ ·) a).toList = a.toList ++ (l.map Array.toList).flatten := by
  induction l with
  | nil => intro a; simp
  | cons b r ih =>
    intro a
    rw [List.foldl_cons, ih, Array.toList_append, List.map_cons, List.flatten_cons, List.append_assoc]
theorem repS_fold (z : Str) (k : Nat) : (⟨(List.replicate k z.cps).foldl (· ++ ·) #[]⟩ : Str) = repS z (k : Int) := by
  have e : ((List.replicate k z.cps).foldl (· ++ ·) #[]).toList = (List.replicate k z.cps.toList).flatten := by
    rw [fold_app, List.map_replicate] <;> simp
  unfold repS
  rw [Int.toNat_natCast, ← e, Array.toArray_toList]
theorem op_mulS : OpR X (binaryOp .Mult) (fun x y H Q => ∃ (z : Str) (k : Int), x = .str z ∧ y = .int k ∧ 1 ≤ k ∧ k ≤ 100000 ∧ z.length * k.toNat ≤ 100000 ∧ Q (.str (repS z k)) H) := by
  intro pins s σ H x y v u Q I rx ry h
  obtain ⟨z, k, rfl, rfl, h1, h2, h3, q⟩ := h
  obtain ⟨t, rfl⟩ := rx
  obtain ⟨t', rfl⟩ := ry
  obtain ⟨n, rfl⟩ : ∃ n : Nat, k = (n : Int) := ⟨k.toNat, by omega⟩
  rw [Int.toNat_natCast] at h3
  refine PySem.P.mul_str ?_ (fun _ _ => ?_) (fun _ _ => ?_) ?_
  · rw [decide_eq_false (by omega), decide_eq_false (by omega)] <;> rfl
  · have hz : z.length ≤ 100000 := Nat.le_trans (Nat.le_mul_of_pos_right _ (by omega)) h3
    have hd : (100000 : Int) ≤ (2 ^ 63 - 1) / (n : Int) := by
      rw [Int.le_ediv_iff_mul_le (by omega)]
      omega
    omega
  · rw [Int.toNat_natCast]
    unfold Builtin.Str.tooLong
    exact decide_eq_false (by have : sizeLine = 16777216 := by decide
                              omega)
  · rw [if_neg (by omega)]
    by_cases c : (((n : Int)) == 1 || z.length == 0) = true
    · rw [if_pos c]
      refine ⟨.str z, H, I, ⟨t, rfl⟩, ?_⟩
      have e : repS z (n : Int) = z := by
        unfold repS
        rw [Int.toNat_natCast]
        rcases Bool.or_eq_true _ _ |>.mp c with c | c
        · have : n = 1 := by have := eq_of_beq c; omega
          subst this
          simp
        · have c2 : z.cps.size = 0 := eq_of_beq c
          have c3 : z.cps.toList = [] := by
            apply List.eq_nil_of_length_eq_zero
            rw [Array.length_toList]
            exact c2
          have c4 : (List.replicate n z.cps.toList).flatten = [] := by rw [c3]; simp
          rw [c4]
          have c5 : z.cps = #[] := Array.eq_empty_of_size_eq_zero c2
          obtain ⟨cps⟩ := z
          simp only at c5
          rw [c5]
      rw [e] at q
      exact q
    · rw [if_neg c, Int.toNat_natCast, repS_fold]
      refine ⟨?_, .str _, H, I.tok _, ⟨_, rfl⟩, q⟩
      have e : (repS z (n : Int)).length = z.length * n := by
        unfold repS
        show ((List.replicate ((n : Int)).toNat z.cps.toList).flatten.toArray).size = z.cps.size * n
        rw [List.size_toArray, Int.toNat_natCast]
        simp [Nat.mul_comm]
      rw [e]
      exact Nat.le_trans h3 (by decide)
end
end Kn

set_option Elab.async false
set_option linter.all false
set_option maxRecDepth 100000
set_option maxHeartbeats 4000000
/-! list(text), repr of data, calls by a table, by keywords alone; defs that know that no repr is under way. -/
namespace Kn
open PySem PySem.Spec PyProof.Rows L2
section
variable {X : Cx}
/-! ### list(text) -/
def signsV (z : Str) : List V := z.cps.toList.map fun c => .str ⟨#[c]⟩
theorem vals_signs {z : Str} {acc : Array Value} (h : ItemsOf (SignAt z) acc z.cps.size) : Vals (signsV z) acc.toList := by
  have hl : acc.toList.length = z.cps.toList.length := by rw [Array.length_toList, Array.length_toList]; exact h.1
  refine vals_of_at (by unfold signsV; rw [List.length_map, hl]) fun j x u h1 h2 => ?_
  obtain ⟨c, t, e1, e2⟩ := h.2 j u (by rw [← Array.getElem?_toList]; exact h2)
  unfold signsV at h1
  rw [List.getElem?_map, Array.getElem?_toList, e1] at h1
  cases h1
  exact ⟨t, e2⟩
theorem call_listS (hc : X.calm = true) : CallR X (.type "list") (fun xs H Q => ∃ z, xs = [.str z] ∧ z.length ≤ 100000 ∧ ∀ p, H p = none → Q (.ref p) (upd H p (.lst (signsV z)))) := by
  intro pins s σ H xs us Q I r h
  obtain ⟨z, rfl, hz, q⟩ := h
  obtain ⟨u, rfl, t, rfl⟩ := vals1 r
  have hz2 : z.cps.size ≤ sizeLine := Nat.le_trans (show z.cps.size ≤ 100000 from hz) (by decide)
  refine PySem.call_list_str (I.ok.hd hc) z t (fun h' tk acc' c' hk e' hi => ?_) hz2
  refine ⟨.ref s.heap.objs.size, upd H s.heap.objs.size (.lst (signsV z)), I.laid hk (Nat.le_refl _) (show ObjOk X.prog X.w _ _ _ (.lst (signsV z)) from ⟨?_, acc'.toList, c', vals_signs hi, ?_⟩), rfl, q _ (I.hok.fresh (Nat.le_refl _))⟩
  · unfold signsV
    rw [List.length_map, Array.length_toList]
    exact hz2
  · rw [Array.toArray_toList]
    exact e'
/-! ### repr -/
theorem call_reprD (hG : X.A.guards = some []) (hu : X.A.units + 64 < cLine) : CallR X (.builtin "repr") (fun xs H Q => ∃ v d, xs = [v] ∧ Dp X.K H v d ∧ d.showable = true ∧ d.hasDict = false ∧ d.depth ≤ 60 ∧ d.shown.length ≤ sizeLine ∧ Q (.str d.shown) H) := by
  intro pins s σ H xs us Q I r h
  obtain ⟨v, d, rfl, hd, h1, h2, h3, h4, q⟩ := h
  obtain ⟨u, rfl, rv⟩ := vals1 r
  obtain ⟨as, rd⟩ := Dp.reads I d v u hd rv
  have nd : d.hasDict = true → sysModules ∉ as := fun z => by
    rw [h2] at z
    cases z
  cases hd with
  | non =>
    cases rv
    exact PySem.P.repr_of_none ⟨.str _, H, I.tok _, ⟨_, rfl⟩, q⟩
  | bl b =>
    cases rv
    exact PySem.P.repr_of_bool ⟨.str _, H, I.tok _, ⟨_, rfl⟩, q⟩
  | int i =>
    obtain ⟨t, rfl⟩ := rv
    exact PySem.P.repr_of_int (of_decide_eq_true h1) ⟨.str _, H, I.tok _, ⟨_, rfl⟩, q⟩
  | str x =>
    obtain ⟨t, rfl⟩ := rv
    exact PySem.P.repr_of_str ⟨.str _, H, I.tok _, ⟨_, rfl⟩, q⟩
  | lst hs ha =>
    cases rv
    exact repr_of_reads' rd h1 nd hG (by omega) (fun _ _ e => e) (fun h' t tk hk => ⟨.str _, H, I.kept (t' := tk) hk, ⟨t, rfl⟩, q⟩) h4
  | tup hs ha =>
    cases rv
    exact repr_of_reads' rd h1 nd hG (by omega) (fun _ _ e => e) (fun h' t tk hk => ⟨.str _, H, I.kept (t' := tk) hk, ⟨t, rfl⟩, q⟩) h4
/-! ### a call by a table: (..)[..](e, ..) -/
def tCallX (tf : TE) (S : Addr → Sp → Prop) (t : TA) : TE := fun σ H Q => tf σ H fun x H1 => ∃ f sp, x = .ref f ∧ S f sp ∧ t σ H1 fun vs H2 => sp vs H2 Q E0
/-- a def that stands at f keeps this promise, by at most level k -/
def HeldAt (P : Program) (w : World) (K : PySem.W.Frag) (mg : Str → Option Value) (base : Heap) (k : Nat) (f : Addr) (sp : Sp) : Prop :=
  ∃ (fd : FuncData) (ps : List Str), FnOk P w K mg base CX0 k f fd ps sp ∧ PySem.W.keepIn K (.ref f) = true ∧ Binds K fd ps []
theorem pe_callX {a b e : Expr} {es : List Expr} {p pos : Pos} {tf : TE} {t : TA} {S : Addr → Sp → Prop} {k : Nat} (hf : PE X (.Subscript a b p) tf) (hS : ∀ f sp, S f sp → HeldAt X.prog X.w X.K X.mg X.base k f sp) (hr : Room k X.A) (ha : PA X (e :: es) t)
    (he : starEach (e :: es) X.env = (false, eval e X.env) :: starEach es X.env := by rfl) (hpl : (backTo pos (starEach es X.env)).any (·.1) = false := by rfl)
    (hev : eval (.Call (.Subscript a b p) (e :: es) [] pos) X.env = (do callWith pos (← eval (.Subscript a b p) X.env) [] (backTo pos (starEach (e :: es) X.env)) (backToKw pos (keywordEach [] X.env))) := by rfl) :
    PE X (.Call (.Subscript a b p) (e :: es) [] pos) (tCallX tf S t) := by
  refine ⟨fun pins s σ H Q I h => ?_⟩
  rw [hev]
  refine wpAny_bind (thn (hf.run pins s σ H _ I h) fun u s1 ⟨x, H1, I1, r1, q1⟩ => ?_)
  obtain ⟨f, sp, ex, hs, q⟩ := q1
  subst ex
  obtain rfl : u = Value.ref f := r1
  obtain ⟨fd, ps, F, hk, hb⟩ := hS f sp hs
  refine PySem.W.callWith_K (h₀ := X.base) I.ok.mod.kin hk (thn (ha.run pos pins s1 σ _ _ I1 q) fun us s2 ⟨vs, H2, I2, r, q2⟩ => ⟨I2.kIn, ?_⟩) he hpl
  exact run_fn F (hr.mono (Nat.le_refl _)) hb .nil pass0 I2 r (by rw [List.append_nil]; exact q2)
/-! ### f(k = e, ..): keywords alone -/
theorem pe_cK0 {k j : Nat} {x : Str} {ps ks : List Str} {sp : Sp} {p pos : Pos} {kws : List Keyword} {tk : TA} {g : List Value → List Value → List Value} {gV : List V → List V → List V} {f : Addr} {fd : FuncData}
    (F : FnOk X.prog X.w X.K X.mg X.base CX0 k f fd ps sp) (hr : Room j X.A) (hj : k ≤ j) (hg : Gl X x) (hm : X.mg x = some (.ref f)) (hk : PySem.W.keepIn X.K (.ref f) = true) (hb : KBinds X.K fd ps ks g gV) (hkw : PK X kws tk)
    (hall : (backToKw pos (keywordEach kws X.env)).all (·.1.isSome) = true := by rfl) (hks : (backToKw pos (keywordEach kws X.env)).filterMap (·.1) = ks := by rfl) (hdb : (x == ("__debug__" : Str)) = false := by decide)
    (hpl : ((backTo pos (starEach [] X.env)).any (·.1) || (backToKw pos (keywordEach kws X.env)).any (·.1.isNone)) = false := by rfl) :
    PE X (.Call (.Name x p) [] kws pos) (tCallK sp gV E0 tNil tk) := by
  refine ⟨fun pins s σ H Q I h => wpAny_Call_Name_kw (ld_glob I hg hm ?_ hdb)⟩
  refine PySem.W.callWith_KW0 (h₀ := X.base) I.ok.mod.kin hk hall (thn (hkw.run pos pins s σ H _ I h) fun ws s2 ⟨zs, H2, I2, rz, q2⟩ => ⟨I2.kIn, ?_⟩) hpl
  rw [hks]
  exact run_fnk F (hr.mono hj) hb pass0 I2 .nil rz q2
end
/-! ### defs that are called where no repr is under way -/
structure FnOkG (P : Program) (w : World) (K : PySem.W.Frag) (mg : Str → Option Value) (base : Heap) (k : Nat) (f : Addr) (fd : FuncData) (ps : List Str) (sp : Sp) : Prop where
  len : ∀ vs H Q E, sp vs H Q E → vs.length = ps.length
  run : ∀ (A : Around) (outer : List Env) (s : Shared) (H : Hp) (args : Args) (us : List Value) (vs : List V) (Q : VK) (E : XK), A.guards = some [] → Room k A → Env0 P w K mg base A outer s H → BindsTo s fd args (ps.zip us) → Vals vs us → sp vs H Q E →
    codeAny (model P w) A (.call (.ref f) args) (CR CX0 outer P w H s Q E) s
section
variable {P : Program} {w : World} {K : PySem.W.Frag} {mg : Str → Option Value} {base : Heap}
theorem fn_ofG {k : Nat} {f : Addr} {name qual : Str} {params : Arguments} {body : List Stmt} {scope : Scope} {dV kV doc pm cdv ct oc : Value} {an od : Option Addr} {osl : Array (Option Value)} {N ps : List Str} {sp : Sp}
    (lk : K.lookup f = some ⟨oc, od, .func (PySem.W.fnOf name qual params body scope dV kV doc pm an cdv ct), osl⟩) (hcd : PySem.W.codeIn K cdv qual = true) (S : FnScope N ps scope) (len : ∀ vs H Q E, sp vs H Q E → vs.length = ps.length)
    (hbody : ∀ (A : Around) (outer : List Env) (s : Shared) (H : Hp) (vs : List V) (Q : VK) (E : XK), A.guards = some [] → Room k (A.deeper (envOfC qual scope s.heap.objs.size f cdv)) → sp vs H Q E →
      ∃ t, PSs (cxOf CX0 P w K mg base N qual scope f cdv A outer s H E) body t ∧ t { nx := fun _ H' => Q .non H', rt := Q } (L2.start N vs) H) :
    FnOkG P w K mg base (k + 1) f (PySem.W.fnOf name qual params body scope dV kV doc pm an cdv ct) ps sp := by
  refine ⟨len, fun A outer s H args us vs Q E hG hr e0 hb r hsp => ?_⟩
  have hl := len _ _ _ _ hsp
  have KX : K.In s.heap := e0.mod.kin.keeps fun b o e => (e0.bs b o e).1
  have lim : s.heap.NoLimit := e0.mod.nolimit.keeps fun b o e => (e0.bs b o e).1
  have hkind : ∀ y ∈ ps.zip us, scope.names.lookup y.1 = some .local ∨ (scope.names.lookup y.1 = some .cell ∧ ((cellsFrom (s.heap.objs.size + 1) scope.names []).lookup y.1).isSome = true) := fun ⟨n, v⟩ hy =>
    (S.par n (List.of_mem_zip hy).1).elim .inl fun q => .inr ⟨q, PySem.W.cellsFrom_some _ _ _ (.inl q)⟩
  refine codeAny_call_function hr.depth (KX _ _ lk) rfl S.co S.gen rfl (PySem.W.codeRec_of KX hcd) (hb _ _ _ _ (wpAny_newFunctionEnv_cells S.kind hkind fun env he s1 x => ?_))
  subst he
  refine ⟨lim.keeps x.toInCall.keep, codeAny_func ?_⟩
  obtain ⟨t, ht, hq⟩ := hbody A outer s H vs Q E hG (hr.deeper _) hsp
  have I : Inv (cxOf CX0 P w K mg base N qual scope f cdv A outer s H E) [] (L2.start N vs) H s1 := inv_start S hr.hd e0 hl r x
  refine wpAny_mono (ht.run [] s1 (L2.start N vs) H _ I hq) (fun fl s' hs => ?_) fun e s' hs => hs
  have fin : ∀ {σ' : L2.St} {H' : Hp} {v : V} {u : Value}, Inv (cxOf CX0 P w K mg base N qual scope f cdv A outer s H E) [] σ' H' s' → RelV v u → Q v H' → CE outer P w H s Q u s' :=
    fun {σ' H' v u} J rv q => ⟨v, H', J.os, J.bare, J.base, J.hok, rv, q⟩
  cases fl with
  | ret u =>
    obtain ⟨v, σ', H', J, rv, q⟩ := hs
    exact fin J rv q
  | next =>
    obtain ⟨σ', H', J, q⟩ := hs
    exact fin (v := V.non) (u := Value.none) J rfl q
  | brk =>
    obtain ⟨_, _, _, q⟩ := hs
    exact False.elim q
  | cont =>
    obtain ⟨_, _, _, q⟩ := hs
    exact False.elim q
theorem okGG {x : Str} {st : Stmt} {f : Addr} {fd : FuncData} {N ps : List Str} {k : Nat} {α : Type} {ar : α → Res → List Da} {pre : α → Res → Prop} {post : α → Da → Prop} (F : FunD K x x (defArgs st) (defBody st) (defScope st) [] [] f fd) (S : FnScope N ps (defScope st))
    (hlen : ∀ a r, (ar a r).length = ps.length)
    (hbody : ∀ (cdv : Value) (A : Around) (outer : List Env) (s : Shared) (H : Hp) (E : XK), A.guards = some [] → Room k (A.deeper (envOfC x (defScope st) s.heap.objs.size f cdv)) →
      ∃ t, PSs (cxOf CX0 P w K mg base N x (defScope st) f cdv A outer s H E).nox (defBody st) t ∧ ∀ (a : α) (r : Res) (F0 : List Addr) (H0 : Hp) (D : Ends), pre a r → Rt ⟨K, F0, r, H0, post a⟩ D → Go ⟨K, F0, r, H0, post a⟩ none (startD N.length (ar a r)) t D) :
    FnOkG P w K mg base (k + 1) f fd ps (spG K ar pre post) := by
  obtain ⟨oc, od, dV, kV, doc, pm, an, cdv, ct, osl, rfl, lk, hcd, _, _⟩ := F.ex
  refine fn_ofG lk hcd S (fun vs H Q E h => ?_) (fun A outer s H vs Q E hG hr h => ?_)
  · obtain ⟨a, F0, r, _, _, hx, _⟩ := h
    rw [hx.length, hlen]
  · obtain ⟨a, F0, r, ho, hf, hx, hp, hq⟩ := h
    obtain ⟨t, hd, go⟩ := hbody cdv A outer s H E hG hr
    refine ⟨t, hd.nox, go a r F0 H { nx := fun _ H' => Q .non H', rt := Q } hp ⟨hq⟩ _ H ⟨Stp.refl ho, hf, hf, fun _ z => (nomatch z), ?_⟩⟩
    exact start_env hx
structure CalG (P : Program) (w : World) (K : PySem.W.Frag) (mg : Str → Option Value) (base : Heap) (k : Nat) (x : Str) (ps : List Str) (sp : Sp) : Prop where
  ex : ∃ (f : Addr) (fd : FuncData), FnOkG P w K mg base k f fd ps sp ∧ mg x = some (.ref f) ∧ PySem.W.keepIn K (.ref f) = true ∧ Binds K fd ps []
theorem calGG {x : Str} {st : Stmt} {N ps : List Str} {k : Nat} {α : Type} {ar : α → Res → List Da} {pre : α → Res → Prop} {post : α → Da → Prop} (F : ∃ fd, FunD K x x (defArgs st) (defBody st) (defScope st) [] [] (He.ga K x) fd) (hm : mg x = some (.ref (He.ga K x))) (S : FnScope N ps (defScope st))
    (bd : ∀ (kV doc pm : Value) (an : Option Addr) (cdv ct : Value) (us : List Value), us.length = ps.length → bindArgs (PySem.W.fnOf x x (defArgs st) (defBody st) (defScope st) .none kV doc pm an cdv ct) ⟨us, []⟩ = pure (ps.zip us)) (hlen : ∀ a r, (ar a r).length = ps.length)
    (hbody : ∀ (f : Addr) (cdv : Value) (A : Around) (outer : List Env) (s : Shared) (H : Hp) (E : XK), A.guards = some [] → Room k (A.deeper (envOfC x (defScope st) s.heap.objs.size f cdv)) →
      ∃ t, PSs (cxOf CX0 P w K mg base N x (defScope st) f cdv A outer s H E).nox (defBody st) t ∧ ∀ (a : α) (r : Res) (F0 : List Addr) (H0 : Hp) (D : Ends), pre a r → Rt ⟨K, F0, r, H0, post a⟩ D → Go ⟨K, F0, r, H0, post a⟩ none (startD N.length (ar a r)) t D) :
    CalG P w K mg base (k + 1) x ps (spG K ar pre post) := by
  obtain ⟨fd, F⟩ := F
  exact ⟨_, fd, okGG F S hlen (fun cdv A outer s H E hG hr => hbody _ cdv A outer s H E hG hr), hm, F.kp, FunD.bindsN F bd⟩
end
section
variable {X : Cx} {k j : Nat} {x : Str} {ps : List Str} {sp : Sp} {p pos : Pos} {e : Expr} {es : List Expr} {t : TA}
theorem pe_cG (c : CalG X.prog X.w X.K X.mg X.base k x ps sp) (hG : X.A.guards = some []) (hr : Room j X.A) (hk : k ≤ j) (hg : Gl X x) (ha : PA X (e :: es) t)
    (hdb : (x == ("__debug__" : Str)) = false := by decide) (he : starEach (e :: es) X.env = (false, eval e X.env) :: starEach es X.env := by rfl) (hpl : (backTo pos (starEach es X.env)).any (·.1) = false := by rfl) :
    PE X (.Call (.Name x p) (e :: es) [] pos) (tCall sp [] E0 t) := by
  obtain ⟨f, fd, F, hm, kp, b⟩ := c.ex
  refine ⟨fun pins s σ H Q I h => wpAny_Call_Name_kw (ld_glob I hg hm ?_ hdb)⟩
  refine PySem.W.callWith_K (h₀ := X.base) I.ok.mod.kin kp (thn (ha.run pos pins s σ H _ I h) fun us s1 ⟨vs, H1, I1, r, q⟩ => ⟨I1.kIn, ?_⟩) he hpl
  have r2 : Vals (vs ++ []) us := by rw [List.append_nil]; exact r
  have hl : (us ++ []).length = ps.length := by rw [List.append_nil, ← r2.length]; exact F.len _ _ _ _ q
  have hb := b s1 us I1.kIn hl
  rw [List.append_nil] at hb
  refine wpAny_call (codeAny_mono (F.run X.A X.stack s1 H1 ⟨us, []⟩ us (vs ++ []) Q E0 hG (hr.mono hk) I1.env0 hb r2 q) fun r s' hq => ?_)
  cases r with
  | error e => exact False.elim hq
  | ok fl =>
    cases fl with
    | ret u => exact I1.after hq
    | next => exact False.elim hq
    | brk => exact False.elim hq
    | cont => exact False.elim hq
end
/-! ### the new rules over data -/
section
variable {K K' : PySem.W.Frag} {r : Res} {ds : Sl} {P : Da → Prop} {ta tb tc te : TE} {x : Str} {xs : List PyData} {d : PyData}
theorem ev_revS (h : Ev K r te ds (Is (.d (.str x)))) (hl : x.length ≤ 100000) : Ev K r (tRevS te) ds (Is (.d (.str (revS x)))) := fun F σ H o f s Q q => by
  refine h F σ H o f s _ fun v H1 _ e s1 x1 => ?_
  subst e
  cases x1
  exact ⟨x, rfl, Nat.le_trans hl (by decide), q _ H1 _ rfl s1 (Rp.str _)⟩
theorem ev_revT (h : Ev K r te ds (Is (.d (.tuple xs)))) (hK : K' = K := by rfl) : Ev K r (tRevT K' te) ds (Is (.d (.tuple xs.reverse))) := fun F σ H o f s Q q => by
  subst hK
  refine h F σ H o f s _ fun v H1 _ e s1 x1 => ?_
  subst e
  cases x1 with
  | tup h1 r1 =>
    refine ⟨_, _, rfl, Same.sqt hide_same h1, fun p np => ?_⟩
    obtain ⟨s2, z⟩ := put_tup s1.on (s1.fok f) np r1.rev
    exact q _ _ _ rfl (s1.trans s2) z
theorem rv_mulS {k : Int} (h1 : 1 ≤ k) (h2 : k ≤ 100000) (h3 : x.length * k.toNat ≤ 100000) : RV K r (fun x y H Q => ∃ (z : Str) (k : Int), x = .str z ∧ y = .int k ∧ 1 ≤ k ∧ k ≤ 100000 ∧ z.length * k.toNat ≤ 100000 ∧ Q (.str (repS z k)) H) (.d (.str x)) (.d (.int k)) (Is (.d (.str (repS x k)))) := fun F H v w o f hv hw Q q => by
  cases hv; cases hw
  exact ⟨x, k, rfl, rfl, h1, h2, h3, q _ H _ rfl (Stp.refl o) (Rp.str _)⟩
theorem rpAll_signs {H : Hp} (x : Str) : RpAll K H (signsV x) (signsP x) := by
  unfold signsV signsP
  generalize x.cps.toList = l
  induction l with
  | nil => exact .nil
  | cons c r ih => exact .cons (.str _) ih
theorem rc_listS (hl : x.length ≤ 100000) : RC K r (fun xs H Q => ∃ z, xs = [.str z] ∧ z.length ≤ 100000 ∧ ∀ p, H p = none → Q (.ref p) (upd H p (.lst (signsV z)))) [.d (.str x)] (Is (.d (.list (signsP x)))) := fun F H vs o f hv Q q => by
  obtain ⟨v, rfl, hz⟩ := x1 hv
  cases hz
  refine ⟨x, rfl, hl, fun p np => ?_⟩
  obtain ⟨s, z⟩ := put_lst o f np (rpAll_signs (K := K) (H := hide (hid F r) H) x)
  exact q _ _ _ rfl s z
theorem rc_repr (h1 : d.showable = true) (h2 : d.hasDict = false) (h3 : d.depth ≤ 60) (h4 : d.shown.length ≤ sizeLine) (hK : K' = K := by rfl) :
    RC K r (fun xs H Q => ∃ v d, xs = [v] ∧ Dp K' H v d ∧ d.showable = true ∧ d.hasDict = false ∧ d.depth ≤ 60 ∧ d.shown.length ≤ sizeLine ∧ Q (.str d.shown) H) [.d d] (Is (.d (.str d.shown))) := fun F H vs o f hv Q q => by
  subst hK
  obtain ⟨v, rfl, hz⟩ := x1 hv
  exact ⟨v, d, rfl, Rp.dp (Rp.same hide_same hz), h1, h2, h3, h4, q _ H _ rfl (Stp.refl o) (Rp.str _)⟩
theorem ev_listRg {n : Int} (h : Ev K r te ds (Is (.d (.int n)))) (h0 : 0 ≤ n) (h1 : n ≤ 100000) : Ev K r (tLstRg (tRg1 te)) ds (Is (.d (.list (rangeP n)))) := fun F σ H o f s Q q => by
  refine h F σ H o f s _ fun v H1 _ e s1 x1 => ?_
  subst e
  cases x1
  refine ⟨n, rfl, RgOk.of_le (by omega) (by omega) (by omega) h0, fun p np => ?_⟩
  have e : rgV 0 n = (List.range n.toNat).map fun i => V.int (i : Nat) := by
    unfold rgV
    rw [Int.sub_zero]
    exact List.map_congr_left fun i _ => by rw [Int.zero_add]
  have ra : RpAll K (hide (hid F r) H1) (rgV 0 n) (rangeP n) := by
    rw [e]
    unfold rangeP
    generalize List.range n.toNat = l
    induction l with
    | nil => exact .nil
    | cons c r ih => exact .cons (.int _) ih
  obtain ⟨s2, z⟩ := put_lst s1.on (s1.fok f) np ra
  exact q _ _ _ rfl (s1.trans s2) z
end
end Kn

set_option Elab.async false
set_option linter.all false
set_option maxRecDepth 100000
set_option maxHeartbeats 4000000
/-! Words, triples, rows, steps in plain Lean. -/
namespace Kn
open PySem PySem.Spec PyProof.Rows L2
abbrev Wd := List Nat
abbrev Tr := Wd × Int × Int
abbrev Row := List Tr
abbrev S : List Nat → Str := SX.S
def Lt : List Nat := [97, 98, 99, 100, 101, 102, 65, 66, 67, 68, 69, 70]
def isL (c : Nat) : Bool := decide (c ∈ Lt)
def flp (c : Nat) : Nat := if c < 97 then c + 32 else c - 32
def und (w : Wd) : Wd := w.reverse.map flp
def LW (w : Wd) : Prop := ∀ c ∈ w, c ∈ Lt
def meets (a b : Nat) : Bool := !(a == b) && (PyProof.Rows.lo1 a == PyProof.Rows.lo1 b)
def wD (w : Wd) : PyData := .str (S w)
def tD (t : Tr) : PyData := .tuple [.str (S t.1), .int t.2.1, .int t.2.2]
def tsD (r : Row) : List PyData := r.map tD
/-- None, or a row as a tuple, as a list -/
def optT : Option Row → PyData
  | none => .none
  | some r => .tuple (tsD r)
def optL : Option Row → PyData
  | none => .none
  | some r => .list (tsD r)
def plain (t : Tr) : Bool := t.2.1 == 0 && t.2.2 == 1
theorem lt_low : ∀ c ∈ Lt, c < 128 := by decide
theorem LW.low {w : Wd} (h : LW w) : w.all (· < 128) = true := List.all_eq_true.mpr fun c hc => decide_eq_true (lt_low c (h c hc))
theorem flp_lo : ∀ c ∈ Lt, c ∈ [65, 66, 67, 68, 69, 70] → PyProof.Rows.lo1 c = flp c := by decide
theorem flp_up : ∀ c ∈ Lt, c ∉ [65, 66, 67, 68, 69, 70] → PyProof.Rows.up1 c = flp c := by decide
theorem flp_up' : ∀ c ∈ Lt, c ∈ [97, 98, 99, 100, 101, 102] → PyProof.Rows.up1 c = flp c := by decide
theorem flp_lo' : ∀ c ∈ Lt, c ∉ [97, 98, 99, 100, 101, 102] → PyProof.Rows.lo1 c = flp c := by decide
theorem flp_lt : ∀ c ∈ Lt, flp c ∈ Lt := by decide
theorem flp_flp : ∀ c ∈ Lt, flp (flp c) = c := by decide
theorem meets_flp : ∀ c ∈ Lt, meets c (flp c) = true ∧ meets (flp c) c = true := by decide
theorem und_lw {w : Wd} (h : LW w) : LW (und w) := fun c hc => by
  unfold und at hc
  obtain ⟨d, hd, rfl⟩ := List.mem_map.mp hc
  exact flp_lt d (h d (List.mem_reverse.mp hd))
theorem und_length (w : Wd) : (und w).length = w.length := by unfold und; rw [List.length_map, List.length_reverse]
theorem S_len' (w : Wd) : (S w).length = w.length := SX.S_len w
theorem lower_w {w : Wd} (h : LW w) : Txt.lower (S w) = S (w.map PyProof.Rows.lo1) := SX.lower_S h.low
theorem upper_w {w : Wd} (h : LW w) : Txt.upper (S w) = S (w.map PyProof.Rows.up1) := SX.upper_S h.low
theorem revS_w (w : Wd) : revS (S w) = S w.reverse := rfl
theorem signs_w (w : Wd) : signsP (S w) = w.map fun c => .str ⟨#[c]⟩ := rfl
theorem joinL_one (f : Nat → Nat) : ∀ l : List Nat, TL.joinL [] (l.map fun c => [f c]) = l.map f
  | [] => rfl
  | [c] => rfl
  | c :: d :: l => by
    have ih := joinL_one f (d :: l)
    rw [List.map_cons, List.map_cons] at ih ⊢
    show [f c] ++ ([] ++ TL.joinL [] ([f d] :: l.map fun c => [f c])) = _
    rw [ih]
    rfl
theorem join_w (f : Nat → Nat) (l : List Nat) : Txt.join (S []) (l.map fun c => S [f c]) = S (l.map f) := by
  have e : (l.map fun c => S [f c]) = (l.map fun c => [f c]).map S := by rw [List.map_map] <;> rfl
  rw [e, SX.join_S, joinL_one]
theorem sum_ones (l : List Str) (h : ∀ z ∈ l, z.length = 1) : (l.map (·.length)).sum = l.length := by
  induction l with
  | nil => rfl
  | cons a r ih =>
    rw [List.map_cons, List.sum_cons, ih fun z hz => h z (List.mem_cons_of_mem _ hz), h a List.mem_cons_self, List.length_cons]
    omega
theorem letters_eq : (Str.ofString "abcdefABCDEF").cps.toList = Lt := by decide +kernel
theorem upper_eq : (Txt.slice (Str.ofString "abcdefABCDEF") (some 6) none).cps.toList = [65, 66, 67, 68, 69, 70] := by decide +kernel
end Kn

set_option Elab.async false
set_option linter.all false
set_option maxRecDepth 100000
set_option maxHeartbeats 4000000
/-! Rules over words; more built-ins over data. -/
namespace Kn
open PySem PySem.Spec PyProof.Rows L2
/-! ### cuts -/
def cutG {α : Type} (xs : List α) (lo hi : Option Int) : List α := (xs.drop (HT.sIx xs.length 0 lo)).take (HT.sIx xs.length xs.length hi - HT.sIx xs.length 0 lo)
theorem cutP_map {α : Type} (f : α → PyData) (xs : List α) (lo hi : Option Int) : cutP (xs.map f) lo hi = (cutG xs lo hi).map f := by
  unfold cutP cutG
  rw [List.length_map, List.map_take, List.map_drop]
theorem cutG_take {α : Type} (xs : List α) (n : Nat) : cutG xs none (some (n : Int)) = xs.take n := by
  unfold cutG
  rw [HT.sIx_nat]
  show (xs.drop 0).take (min n xs.length - 0) = _
  rw [List.drop_zero, Nat.sub_zero]
  by_cases h : n ≤ xs.length
  · rw [Nat.min_eq_left h]
  · rw [Nat.min_eq_right (by omega), List.take_length, List.take_of_length_le (by omega)]
theorem cutG_drop {α : Type} (xs : List α) (n : Nat) : cutG xs (some (n : Int)) none = xs.drop n := by
  unfold cutG
  rw [HT.sIx_nat]
  show (xs.drop (min n xs.length)).take (xs.length - min n xs.length) = _
  by_cases h : n ≤ xs.length
  · rw [Nat.min_eq_left h, List.take_of_length_le (by rw [List.length_drop]; omega)]
  · rw [Nat.min_eq_right (by omega), List.drop_length, List.take_nil, List.drop_of_length_le (by omega)]
theorem cutG_mid {α : Type} (xs : List α) (n m : Nat) (h : n ≤ m) (h2 : m ≤ xs.length) : cutG xs (some (n : Int)) (some (m : Int)) = (xs.drop n).take (m - n) := by
  unfold cutG
  rw [HT.sIx_nat, HT.sIx_nat, Nat.min_eq_left h2, Nat.min_eq_left (by omega)]
theorem cutG_whole {α : Type} (xs : List α) : cutG xs none none = xs := by
  unfold cutG
  show (xs.drop 0).take (xs.length - 0) = xs
  rw [List.drop_zero, Nat.sub_zero, List.take_length]
theorem cutG_len {α : Type} (xs : List α) (lo hi : Option Int) : (cutG xs lo hi).length ≤ xs.length := by
  unfold cutG
  rw [List.length_take, List.length_drop]
  omega
theorem cutG_mem {α : Type} {xs : List α} {lo hi : Option Int} {x : α} (h : x ∈ cutG xs lo hi) : x ∈ xs := List.mem_of_mem_drop (List.mem_of_mem_take h)
theorem slice_clip (x : Str) (l u : Option Int) : Txt.slice x l u = Txt.slice x (some ((HT.sIx x.length 0 l : Nat) : Int)) (some ((HT.sIx x.length x.length u : Nat) : Int)) := by
  have e : Builtin.Str.strSliceIndices l u 1 x.length = Builtin.Str.strSliceIndices (some ((HT.sIx x.length 0 l : Nat) : Int)) (some ((HT.sIx x.length x.length u : Nat) : Int)) 1 x.length := by
    have e1 : ∀ (v : Option Int) (d : Nat), d ≤ x.length → (match v with | none => (d : Int) | some i => (if (1 : Int) > 0 then max 0 (min (if i < 0 then i + (x.length : Int) else i) (x.length : Int)) else max (-1) (min (if i < 0 then i + (x.length : Int) else i) ((x.length : Int) - 1)))) = ((HT.sIx x.length d v : Nat) : Int) := by
      intro v d hd
      cases v with
      | none => rfl
      | some i =>
        simp only [HT.sIx, show (1 : Int) > 0 by decide, if_true]
        by_cases h : i < 0
        · simp only [h, if_true]; omega
        · simp only [h, if_false]; omega
    unfold Builtin.Str.strSliceIndices
    have a1 := e1 l 0 (Nat.zero_le _)
    have a2 := e1 u x.length (Nat.le_refl _)
    have b1 := e1 (some ((HT.sIx x.length 0 l : Nat) : Int)) 0 (Nat.zero_le _)
    have b2 := e1 (some ((HT.sIx x.length x.length u : Nat) : Int)) x.length (Nat.le_refl _)
    have c1 : HT.sIx x.length 0 (some ((HT.sIx x.length 0 l : Nat) : Int)) = HT.sIx x.length 0 l := by
      rw [HT.sIx_nat, Nat.min_eq_left (HT.sIx_le _ _ (Nat.zero_le _) _)]
    have c2 : HT.sIx x.length x.length (some ((HT.sIx x.length x.length u : Nat) : Int)) = HT.sIx x.length x.length u := by
      rw [HT.sIx_nat, Nat.min_eq_left (HT.sIx_le _ _ (Nat.le_refl _) _)]
    rw [c1] at b1
    rw [c2] at b2
    have key : ∀ a a' b b' : Int, a = a' → b = b' → sliceRange a b 1 = sliceRange a' b' 1 := by
      intro a a' b b' h1 h2
      rw [h1, h2]
    exact key _ _ _ _ (a1.trans b1.symm) (a2.trans b2.symm)
  unfold Txt.slice
  rw [e]
theorem slice_w (w : Wd) (l u : Option Int) (h : HT.sIx w.length 0 l ≤ HT.sIx w.length w.length u) : Txt.slice (S w) l u = S (cutG w l u) := by
  rw [slice_clip]
  have hl : (S w).length = w.length := S_len' w
  rw [hl]
  refine TL.ext_tl ?_
  show (Txt.slice (S w) _ _).cps.toList = cutG w l u
  rw [PySem.W.os_slice h (by rw [hl]; exact HT.sIx_le _ _ (Nat.le_refl _) _)]
  rfl
section
variable {K K' : PySem.W.Frag} {r : Res} {ds : Sl} {P : Da → Prop} {ta tb tc te : TE} {tt tu : TT} {i j : Int} {w u : Wd} {xs ys : List PyData} {d e : PyData}
theorem rs_w {lo hi : Option Int} (hl : w.length ≤ 100000) (h : HT.sIx w.length 0 lo ≤ HT.sIx w.length w.length hi) : RS K r C8.rSlX (.d (.str (S w))) lo hi (Is (.d (.str (S (cutG w lo hi))))) := by
  rw [← slice_w w lo hi h]
  exact rs_str (by rw [S_len']; exact hl)
theorem rs_wT {n : Nat} (hl : w.length ≤ 100000) : RS K r C8.rSlX (.d (.str (S w))) none (some (n : Int)) (Is (.d (.str (S (w.take n))))) := by
  rw [← cutG_take]
  exact rs_w hl (Nat.zero_le _)
theorem rs_wD {n : Nat} (hl : w.length ≤ 100000) : RS K r C8.rSlX (.d (.str (S w))) (some (n : Int)) none (Is (.d (.str (S (w.drop n))))) := by
  rw [← cutG_drop]
  exact rs_w hl (HT.sIx_le _ _ (Nat.zero_le _) _)
theorem rs_wM {n m : Nat} (hl : w.length ≤ 100000) (h : n ≤ m) (h2 : m ≤ w.length) : RS K r C8.rSlX (.d (.str (S w))) (some (n : Int)) (some (m : Int)) (Is (.d (.str (S ((w.drop n).take (m - n)))))) := by
  rw [← cutG_mid w n m h h2]
  exact rs_w hl (by rw [HT.sIx_nat, HT.sIx_nat]; omega)
theorem rs_tP {α : Type} {f : α → PyData} {l : List α} {lo hi : Option Int} (hK : K' = K := by rfl) : RS K r (rSlA K') (.d (.tuple (l.map f))) lo hi (Is (.d (.tuple ((cutG l lo hi).map f)))) := by
  rw [← cutP_map]
  exact rs_tup hK
theorem rs_lP {α : Type} {f : α → PyData} {l : List α} {lo hi : Option Int} (hK : K' = K := by rfl) : RS K r (rSlL K') (.d (.list (l.map f))) lo hi (Is (.d (.list ((cutG l lo hi).map f)))) := by
  rw [← cutP_map]
  exact rs_list hK
theorem rv_ixW {c : Nat} (hl : w.length ≤ 100000) (h : atI w i = some c) : RV K r rIxS (.d (.str (S w))) (.d (.int i)) (Is (.d (.str (S [c])))) := rv_ixS (by rw [S_len']; exact hl) h
theorem rv_addW (h : w.length + u.length ≤ 100000) : RV K r (fun x y H Q => ∃ i j, x = .str i ∧ y = .str j ∧ i.length + j.length ≤ sizeLine ∧ Q (.str (i ++ j)) H) (.d (.str (S w))) (.d (.str (S u))) (Is (.d (.str (S (w ++ u))))) := by
  rw [show S (w ++ u) = S w ++ S u from (SX.S_cat w u).symm]
  exact rv_addS (by rw [S_len', S_len']; exact h)
theorem rv_eqW : RV K r rEq (.d (.str (S w))) (.d (.str (S u))) (Is (.d (.bool (w == u)))) := by
  rw [show (w == u) = (S w == S u) from (SX.S_beq w u).symm]
  exact rv_eqS
theorem rv_neW : RV K r rNe (.d (.str (S w))) (.d (.str (S u))) (Is (.d (.bool (!(w == u))))) := by
  rw [show (w == u) = (S w == S u) from (SX.S_beq w u).symm]
  exact rv_neS
theorem rc_lenW (h : w.length ≤ 100000) : RC K r (fun xs H Q => ∃ z, xs = [.str z] ∧ z.length ≤ sizeLine ∧ Q (.int z.length) H) [.d (.str (S w))] (Is (.d (.int w.length))) := by
  have z := rc_lenS (K := K) (r := r) (x := S w) (by rw [S_len']; exact h)
  rw [S_len'] at z
  exact z
theorem rm_lowW (h : LW w) (hl : w.length ≤ 100000) : RM K r (fun x xs H Q => ∃ a, x = .str a ∧ xs = [] ∧ a.length ≤ 5592405 ∧ Q (.str (Txt.lower a)) H) (.d (.str (S w))) [] (Is (.d (.str (S (w.map PyProof.Rows.lo1))))) := by
  rw [← lower_w h]
  exact rm_lower (by rw [S_len']; exact hl)
theorem rm_upW (h : LW w) (hl : w.length ≤ 100000) : RM K r (fun x xs H Q => ∃ a, x = .str a ∧ xs = [] ∧ a.length ≤ 5592405 ∧ Q (.str (Txt.upper a)) H) (.d (.str (S w))) [] (Is (.d (.str (S (w.map PyProof.Rows.up1))))) := by
  rw [← upper_w h]
  exact rm_upper (by rw [S_len']; exact hl)
theorem rv_inW {c : Nat} : RV K r (fun x y H Q => ∃ (c : Nat) (z : Str), x = .str ⟨#[c]⟩ ∧ y = .str z ∧ Q (.bl (decide (c ∈ z.cps.toList))) H) (.d (.str (S [c]))) (.d (.str (S w))) (Is (.d (.bool (decide (c ∈ w))))) := rv_inSign (K := K) (r := r) (c := c) (y := S w)
def repW (w : Wd) (k : Nat) : Wd := (List.replicate k w).flatten
theorem rv_mulW {k : Int} (h1 : 1 ≤ k) (h2 : k ≤ 100000) (h3 : w.length * k.toNat ≤ 100000) : RV K r (fun x y H Q => ∃ (z : Str) (k : Int), x = .str z ∧ y = .int k ∧ 1 ≤ k ∧ k ≤ 100000 ∧ z.length * k.toNat ≤ 100000 ∧ Q (.str (repS z k)) H) (.d (.str (S w))) (.d (.int k)) (Is (.d (.str (S (repW w k.toNat))))) := rv_mulS h1 h2 (by rw [S_len']; exact h3)
theorem rc_listW (hl : w.length ≤ 100000) : RC K r (fun xs H Q => ∃ z, xs = [.str z] ∧ z.length ≤ 100000 ∧ ∀ p, H p = none → Q (.ref p) (upd H p (.lst (signsV z)))) [.d (.str (S w))] (Is (.d (.list (w.map fun c => .str (S [c]))))) := rc_listS (x := S w) (by rw [S_len']; exact hl)
theorem ei_w (h : Ev K r te ds (Is (.d (.str (S w))))) : EvI K r (iStr te) ds (w.map fun c => .str (S [c])) := ei_str h
theorem ev_revW (h : Ev K r te ds (Is (.d (.str (S w))))) (hl : w.length ≤ 100000) : Ev K r (tRevS te) ds (Is (.d (.str (S w.reverse)))) := ev_revS h (by rw [S_len']; exact hl)
/-! ### ints -/
theorem rc_int : RC K r (fun xs H Q => (∃ i, xs = [.int i] ∧ Q (.int i) H) ∨ ∃ k, xs = [.bl k] ∧ Q (.int (if k then 1 else 0)) H) [.d (.int i)] (Is (.d (.int i))) := fun F H vs o f hv Q q => by
  obtain ⟨v, rfl, hz⟩ := x1 hv
  cases hz
  exact .inl ⟨i, rfl, q _ H _ rfl (Stp.refl o) (Rp.int _)⟩
theorem rc_abs : RC K r (fun xs H Q => ∃ i, xs = [.int i] ∧ Q (.int (if i < 0 then -i else i)) H) [.d (.int i)] (Is (.d (.int (if i < 0 then -i else i)))) := fun F H vs o f hv Q q => by
  obtain ⟨v, rfl, hz⟩ := x1 hv
  cases hz
  exact ⟨i, rfl, q _ H _ rfl (Stp.refl o) (Rp.int _)⟩
theorem rc_divmod (hc : CDiv i j) : RC K r (fun xs H Q => ∃ i j, xs = [.int i, .int j] ∧ CDiv i j ∧ ∀ p, H p = none → Q (.ref p) (upd H p (.tup [.int (i / j), .int (i % j)]))) [.d (.int i), .d (.int j)] (Is (.d (.tuple [.int (i / j), .int (i % j)]))) := fun F H vs o f hv Q q => by
  obtain ⟨v, z, rfl, h1, h2⟩ := x2 hv
  cases h1; cases h2
  refine ⟨i, j, rfl, hc, fun p np => ?_⟩
  obtain ⟨s, z⟩ := put_tup o f np (K := K) (vs := [.int (i / j), .int (i % j)]) (xs := [.int (i / j), .int (i % j)]) (.cons (.int _) (.cons (.int _) .nil))
  exact q _ _ _ rfl s z
theorem rv_rep {k : Int} (h1 : -1000 ≤ k) (h2 : k ≤ 1000) (h3 : xs.length * k.toNat ≤ 100000) : RV K r rRep (.d (.list xs)) (.d (.int k)) (Is (.d (.list (List.replicate k.toNat xs).flatten))) := fun F H v w o f hv hw Q q => by
  cases hw
  cases hv with
  | lst a1 r1 =>
    refine ⟨_, k, _, rfl, rfl, (hide_of a1).2, by omega, by omega, Nat.le_trans (by rw [r1.length]; exact h3) (by decide), fun p np => ?_⟩
    have ra : ∀ n : Nat, RpAll K (hide (hid F r) H) (List.replicate n _).flatten (List.replicate n xs).flatten := fun n => by
      induction n with
      | zero => exact .nil
      | succ n ih =>
        rw [List.replicate_succ, List.replicate_succ, List.flatten_cons, List.flatten_cons]
        exact r1.append ih
    obtain ⟨s, z⟩ := put_lst o f np (ra k.toNat)
    exact q _ _ _ rfl s z
theorem rc_tupT (hK : K' = K := by rfl) : RC K r (fun xs H Q => ∃ p ys, xs = [.ref p] ∧ ((SqL K' H p ys ∧ ∀ l, H l = none → Q (.ref l) (upd H l (.tup ys))) ∨ (SqT K' H p ys ∧ Q (.ref p) H))) [.d (.tuple xs)] (Is (.d (.tuple xs))) := fun F H vs o f hv Q q => by
  subst hK
  obtain ⟨v, rfl, hz⟩ := x1 hv
  cases hz with
  | tup h1 r1 => exact ⟨_, _, rfl, .inr ⟨Same.sqt hide_same h1, q _ H _ rfl (Stp.refl o) (Rp.tup h1 r1)⟩⟩
end
end Kn

set_option Elab.async false
set_option linter.all false
set_option maxRecDepth 100000
set_option maxHeartbeats 4000000
/-! Rules over triples and rows; the steps in plain Lean. -/
namespace Kn
open PySem PySem.Spec PyProof.Rows L2
section
variable {K K' : PySem.W.Frag} {r : Res} {ds : Sl} {P : Da → Prop} {ta tb tc te : TE} {tt tu : TT} {i j : Int} {w u : Wd} {xs ys : List PyData} {d e : PyData} {t t1 t2 t3 t4 : Tr} {l l2 : Row}
theorem rv_ix0 (hK : K' = K := by rfl) : RV K r (rIxT K') (.d (tD t)) (.d (.int 0)) (Is (.d (.str (S t.1)))) := rv_ixT rfl hK
theorem rv_ix1 (hK : K' = K := by rfl) : RV K r (rIxT K') (.d (tD t)) (.d (.int 1)) (Is (.d (.int t.2.1))) := rv_ixT rfl hK
theorem rv_ix2 (hK : K' = K := by rfl) : RV K r (rIxT K') (.d (tD t)) (.d (.int 2)) (Is (.d (.int t.2.2))) := rv_ixT rfl hK
theorem S_nil_beq (w : Wd) : (S w == Str.ofString "") = (w == []) := by
  rw [show Str.ofString "" = S [] by decide +kernel]
  exact SX.S_beq w []
theorem rv_eqE : RV K r rEq (.d (.str (S w))) (.d (.str (Str.ofString ""))) (Is (.d (.bool (w == [])))) := by
  rw [← S_nil_beq]
  exact rv_eqS
theorem rv_neE : RV K r rNe (.d (.str (S w))) (.d (.str (Str.ofString ""))) (Is (.d (.bool (!(w == []))))) := by
  rw [← S_nil_beq]
  exact rv_neS
theorem lw1 {c : Nat} (h : c ∈ Lt) : LW [c] := fun d hd => by rw [List.mem_singleton.mp hd]; exact h
theorem rc_lenD3 (hK : K' = K := by rfl) : RC K r (fun xs H Q => ∃ p ys, xs = [.ref p] ∧ (SqL K' H p ys ∨ SqT K' H p ys) ∧ Q (.int ys.length) H) [.d (tD t)] (Is (.d (.int 3))) := rc_lenT (xs := [.str (S t.1), .int t.2.1, .int t.2.2]) hK
theorem eg_tD {vs : List Nat} {i j k : Nat} (hi : i ∈ vs) (hj : j ∈ vs) (hk : k ∈ vs) (hK : K' = K := by rfl) : EvG K r (gTup K' 3 (gCons (gName i) (gCons (gName j) (gCons (gName k) gNil)))) vs ds (.d (tD t)) (((ds.set i (some (.d (.str (S t.1))))).set j (some (.d (.int t.2.1)))).set k (some (.d (.int t.2.2)))) :=
  eg_tup (xs := [.str (S t.1), .int t.2.1, .int t.2.2]) (egs_cons (eg_name hi) (egs_cons (eg_name hj) (egs_cons (eg_name hk) egs_nil))) rfl hK
theorem atI_map {α : Type} {f : α → PyData} {l : List α} {x : α} (h : atI l i = some x) : atI (l.map f) i = some (f x) := by
  unfold atI at h ⊢
  rw [List.length_map]
  cases q : ixN l.length i with
  | none =>
    rw [q] at h
    cases h
  | some k =>
    rw [q] at h
    show (l.map f)[k]? = some (f x)
    rw [List.getElem?_map, show l[k]? = some x from h]
    rfl
theorem atI_nat {α : Type} {l : List α} {n : Nat} (h : n < l.length) : atI l (n : Int) = some l[n] := by
  unfold atI ixN
  rw [if_pos (by omega), if_pos (by omega)]
  show l[((n : Int)).toNat]? = _
  rw [Int.toNat_natCast]
  exact List.getElem?_eq_getElem h
theorem atI_in {α : Type} {l : List α} (h0 : 0 ≤ i) (h : i < l.length) : atI l i = some (l[i.toNat]'(by omega)) := by
  unfold atI ixN
  rw [if_pos h0, if_pos h]
  exact List.getElem?_eq_getElem (by omega)
theorem atI_ex {α : Type} {l : List α} (h0 : 0 ≤ i) (h : i < l.length) : ∃ x, atI l i = some x ∧ l[i.toNat]? = some x ∧ x ∈ l :=
  ⟨_, atI_in h0 h, List.getElem?_eq_getElem (by omega), List.getElem_mem _⟩
theorem atI_mem {α : Type} {l : List α} {x : α} (h : atI l i = some x) : x ∈ l := by
  unfold atI at h
  cases q : ixN l.length i with
  | none =>
    rw [q] at h
    cases h
  | some k =>
    rw [q] at h
    exact List.mem_of_getElem? h
theorem atI_0 {α : Type} {x : α} {l : List α} : atI (x :: l) 0 = some x := by
  unfold atI ixN
  rw [if_pos (by omega), if_pos (by rw [List.length_cons]; omega)]
  rfl
theorem atI_1 {α : Type} {x y : α} {l : List α} : atI (x :: y :: l) 1 = some y := by
  unfold atI ixN
  rw [if_pos (by omega), if_pos (by rw [List.length_cons, List.length_cons]; omega)]
  rfl
theorem atI_2 {α : Type} {x y z : α} {l : List α} : atI (x :: y :: z :: l) 2 = some z := by
  unfold atI ixN
  rw [if_pos (by omega), if_pos (by rw [List.length_cons, List.length_cons, List.length_cons]; omega)]
  rfl
theorem rv_ixT0 (hK : K' = K := by rfl) : RV K r (rIxT K') (.d (.tuple (d :: xs))) (.d (.int 0)) (Is (.d d)) := rv_ixT atI_0 hK
theorem rv_ixT1 (hK : K' = K := by rfl) : RV K r (rIxT K') (.d (.tuple (d :: e :: xs))) (.d (.int 1)) (Is (.d e)) := rv_ixT atI_1 hK
theorem rv_ixRT (h : atI l i = some t) (hK : K' = K := by rfl) : RV K r (rIxT K') (.d (.tuple (tsD l))) (.d (.int i)) (Is (.d (tD t))) := rv_ixT (atI_map h) hK
theorem rv_ixRL (h : atI l i = some t) (hK : K' = K := by rfl) : RV K r (rIxL K') (.d (.list (tsD l))) (.d (.int i)) (Is (.d (tD t))) := rv_ixL (atI_map h) hK
theorem rs_rT {lo hi : Option Int} (hK : K' = K := by rfl) : RS K r (rSlA K') (.d (.tuple (tsD l))) lo hi (Is (.d (.tuple (tsD (cutG l lo hi))))) := rs_tP hK
theorem rs_rL {lo hi : Option Int} (hK : K' = K := by rfl) : RS K r (rSlL K') (.d (.list (tsD l))) lo hi (Is (.d (.list (tsD (cutG l lo hi))))) := rs_lP hK
theorem tsD_app : tsD (l ++ l2) = tsD l ++ tsD l2 := List.map_append
theorem tsD_len : (tsD l).length = l.length := List.length_map _
theorem rv_catRT (h : l.length + l2.length ≤ 100000) (hK : K' = K := by rfl) : RV K r (rCatA K') (.d (.tuple (tsD l))) (.d (.tuple (tsD l2))) (Is (.d (.tuple (tsD (l ++ l2))))) := by
  rw [tsD_app]
  exact rv_catA (by rw [tsD_len, tsD_len]; exact h) hK
theorem rv_catRL (h : l.length + l2.length ≤ 100000) : RV K r rCat (.d (.list (tsD l))) (.d (.list (tsD l2))) (Is (.d (.list (tsD (l ++ l2))))) := by
  rw [tsD_app]
  exact rv_cat (by rw [tsD_len, tsD_len]; exact h)
theorem rc_lenRT (hK : K' = K := by rfl) : RC K r (fun xs H Q => ∃ p ys, xs = [.ref p] ∧ (SqL K' H p ys ∨ SqT K' H p ys) ∧ Q (.int ys.length) H) [.d (.tuple (tsD l))] (Is (.d (.int l.length))) := by
  have z := rc_lenT (K := K) (r := r) (xs := tsD l) hK
  rw [tsD_len] at z
  exact z
theorem rc_lenRL (hK : K' = K := by rfl) : RC K r (fun xs H Q => ∃ p ys, xs = [.ref p] ∧ (SqL K' H p ys ∨ SqT K' H p ys) ∧ Q (.int ys.length) H) [.d (.list (tsD l))] (Is (.d (.int l.length))) := by
  have z := rc_lenL (K := K) (r := r) (xs := tsD l) hK
  rw [tsD_len] at z
  exact z
theorem ev_tD {ta : TA} {a : Wd} {b c : Int} (h : EvA K r ta ds (IsA [.d (.str (S a)), .d (.int b), .d (.int c)])) : Ev K r (tTup ta) ds (Is (.d (tD (a, b, c)))) := ev_tup (xs := [.str (S a), .int b, .int c]) h (by simp)
theorem ev_rT0 : Ev K r (tTup tNil) ds (Is (.d (.tuple (tsD [])))) := ev_tup (xs := []) ea_nil (by decide)
theorem ev_rL0 : Ev K r (tLst tNil) ds (Is (.d (.list (tsD [])))) := ev_lst (xs := []) ea_nil (by decide)
theorem ev_rT1 {ta : TA} (h : EvA K r ta ds (IsA [.d (tD t)])) : Ev K r (tTup ta) ds (Is (.d (.tuple (tsD [t])))) := ev_tup (xs := [tD t]) h (by simp)
theorem ev_rT2 {ta : TA} (h : EvA K r ta ds (IsA [.d (tD t), .d (tD t2)])) : Ev K r (tTup ta) ds (Is (.d (.tuple (tsD [t, t2])))) := ev_tup (xs := [tD t, tD t2]) h (by simp)
theorem ev_rT3 {ta : TA} (h : EvA K r ta ds (IsA [.d (tD t), .d (tD t2), .d (tD t3)])) : Ev K r (tTup ta) ds (Is (.d (.tuple (tsD [t, t2, t3])))) := ev_tup (xs := [tD t, tD t2, tD t3]) h (by simp)
theorem ev_rL1 {ta : TA} (h : EvA K r ta ds (IsA [.d (tD t)])) : Ev K r (tLst ta) ds (Is (.d (.list (tsD [t])))) := ev_lst (xs := [tD t]) h (by simp)
theorem ev_rL2 {ta : TA} (h : EvA K r ta ds (IsA [.d (tD t), .d (tD t2)])) : Ev K r (tLst ta) ds (Is (.d (.list (tsD [t, t2])))) := ev_lst (xs := [tD t, tD t2]) h (by simp)
theorem ev_rL3 {ta : TA} (h : EvA K r ta ds (IsA [.d (tD t), .d (tD t2), .d (tD t3)])) : Ev K r (tLst ta) ds (Is (.d (.list (tsD [t, t2, t3])))) := ev_lst (xs := [tD t, tD t2, tD t3]) h (by simp)
theorem ev_rL4 {ta : TA} (h : EvA K r ta ds (IsA [.d (tD t), .d (tD t2), .d (tD t3), .d (tD t4)])) : Ev K r (tLst ta) ds (Is (.d (.list (tsD [t, t2, t3, t4])))) := ev_lst (xs := [tD t, tD t2, tD t3, tD t4]) h (by simp)
end
section
variable {B : Bs} {o : Ow} {ds : Sl} {P : Da → Prop} {te : TE} {tt : TT} {t u : TS} {D : Ends}
theorem go_retI {w : Da} (R : Rt B D) (h : Ev B.K B.r te ds (Is w)) (k : B.post w) : Go B o ds (tSeq (tRet te) u) D := go_ret R h fun w' e => by subst e; exact k
theorem go_retE {w w' : Da} (R : Rt B D) (hp : B.post = Is w) (h : Ev B.K B.r te ds (Is w')) (k : w' = w) : Go B o ds (tSeq (tRet te) u) D := go_retI R h (by rw [hp]; exact k)
end
theorem nox_K {CX : CXT} {P : Program} {w : World} {K : PySem.W.Frag} {mg : Str → Option Value} {base : Heap} {N : List Str} {qual : Str} {sc : Scope} {f : Addr} {cdv : Value} {A : Around} {outer : List Env} {s : Shared} {H : Hp} {E : XK} : (cxOf CX P w K mg base N qual sc f cdv A outer s H E).nox.K = K := rfl
/-! ### the steps -/
def aOut (t : Tr) : Option Row := if (t.1 == [] || (t.2.1 == 0 && t.2.2 == 0)) = true then some [] else none
def aTurn (t : Tr) : Row := [(und t.1, -t.2.1, -t.2.2)]
def aJoin (t m : Tr) : Option Row := if (t.1 == m.1) = true then some [(t.1, t.2.1 + m.2.1, t.2.2 + m.2.2)] else none
def aSplit (t : Tr) (a b : Int) : Row := [(t.1, t.2.1 - a, t.2.2 - b), (t.1, a, b)]
def aCut (t : Tr) (z : Int) : Option Row := if (!plain t || !(decide (0 < z) && decide (z < (t.1.length : Int)))) = true then none else some [(cutG t.1 none (some z), 0, 1), (cutG t.1 (some z) none, 0, 1)]
def aGlue (t m : Tr) : Option Row := if (plain t && plain m) = true then some [(t.1 ++ m.1, 0, 1)] else none
def meetAt (w : Wd) (z : Int) : Bool := match atI w z, atI w (z + 1) with
  | some a, some b => meets a b
  | _, _ => false
def aUndo (t : Tr) (z : Int) : Option Row :=
  if (!(decide (0 ≤ z) && decide (z < (t.1.length : Int) - 1)) || !meetAt t.1 z) = true then none
  else some [(cutG t.1 none (some z) ++ cutG t.1 (some (z + 2)) none, t.2.1, t.2.2)]
def aBack (t m : Tr) (z : Int) : Option Row :=
  if (!plain t || (!((t.1.length : Int) == z) || (decide (z < 1) || decide ((m.1.length : Int) < z)))) = true then none
  else if (!(cutG m.1 (some ((m.1.length : Int) - z)) none == t.1)) = true then none
  else some [(t.1 ++ cutG m.1 none (some ((m.1.length : Int) - z)), m.2.1, m.2.2), (t.1, 0, 1)]
def aOpen (t : Tr) (z : Int) : Option Row :=
  if (!decide (0 < z) || (decide ((t.1.length : Int) ≤ 2 * z) || !(und (cutG t.1 none (some z)) == cutG t.1 (some ((t.1.length : Int) - z)) none))) = true then none
  else some [(cutG t.1 none (some z), 0, 1), (cutG t.1 (some z) (some ((t.1.length : Int) - z)), t.2.1, t.2.2), (und (cutG t.1 none (some z)), 0, 1)]
def aRoot (t : Tr) (z : Int) : Option Row :=
  if (decide (z < 2) || ((t.1.length : Int) == 0 || !((t.1.length : Int) % z == 0))) = true then none
  else if (repW (cutG t.1 none (some ((t.1.length : Int) / z))) z.toNat == t.1) = true then some [(cutG t.1 none (some ((t.1.length : Int) / z)), t.2.1 * z, t.2.2 * z)] else none
end Kn

set_option Elab.async false
set_option linter.all false
set_option maxRecDepth 100000
set_option maxHeartbeats 4000000
/-! The program's small defs. -/
namespace Kn
open PySem PySem.Spec PyProof.Rows L2
local macro_rules | `(tactic| walk_at "sd") => `(tactic| first | trivial | assumption | walk_at "sz")
local macro_rules | `(tactic| walk_at "sz") => `(tactic| first | assumption | decide | omega | rfl | (simp only [List.length_append, List.length_map, List.length_cons, List.length_nil, List.length_reverse]; omega))
local macro_rules | `(tactic| walk_at "rv") => `(tactic| with_reducible first
  | exact rv_ix0 | exact rv_ix1 | exact rv_ix2 | exact rv_eqI | exact rv_neI | exact rv_eqE | exact rv_neE | exact rv_eqW | exact rv_neW | exact rv_eqS | exact rv_neS
  | exact rv_int0 | exact rv_bl0
  | exact rv_ixT0 | exact rv_ixT1
  | exact rv_ixRT (by assumption) | exact rv_ixRL (by assumption) | (apply rv_ixW; walk_at "sz"; assumption)
  | (refine rv_addW ?_; walk_at "sz")
  | (refine rv_catRT ?_; walk_at "sz") | (refine rv_catRL ?_; walk_at "sz")
  | (refine rv_intC ?_; assumption) | (apply rv_mulW; walk_at "sz"; walk_at "sz"; walk_at "sz")
  | exact rv_inW | exact rv_inSign | exact rv_isN | exact rv_notN | exact rv_notBl
  | exact rv_ixT (by with_unfolding_all rfl) | exact rv_ixL (by with_unfolding_all rfl)
  | exact rv_ixT (by assumption) | exact rv_ixL (by assumption)
  | (refine rv_catA ?_; walk_at "sz") | (refine rv_cat ?_; walk_at "sz"))
local macro_rules | `(tactic| walk_at "rs") => `(tactic| with_reducible first
  | exact rs_rT | exact rs_rL
  | (refine rs_w ?_ ?_; walk_at "sz"; (with_unfolding_all first | exact Nat.zero_le _ | exact HT.sIx_le _ _ (Nat.zero_le _) _ | assumption))
  | exact rs_tup | exact rs_list
  | (refine rs_str ?_; walk_at "sz"))
local macro_rules | `(tactic| walk_at "rc") => `(tactic| with_reducible first
  | exact rc_lenD3 | exact rc_lenRT | exact rc_lenRL | exact rc_lenT | exact rc_lenL | (refine rc_lenW ?_; walk_at "sz") | (refine rc_lenS ?_; walk_at "sz")
  | exact rc_isi (kit_int _) | exact rc_isi (kit_bool _) | exact rc_isi (kit_str _) | exact rc_isi (kit_tup _)
  | exact rc_max | exact rc_min | exact rc_int | exact rc_abs | exact rc_all | exact rc_tupL | exact rc_tupT | exact rc_list | exact rc_listT | (refine rc_listW ?_; walk_at "sz"))
local macro_rules | `(tactic| walk_at "rm") => `(tactic| first | (with_reducible apply rm_lowW; assumption; walk_at "sz") | (with_reducible apply rm_upW; assumption; walk_at "sz"))
local macro_rules | `(tactic| walk_at "ea") => `(tactic| first
  | with_reducible exact ea_nil
  | ((with_reducible apply ea_cons); walk_at "ev"; walk_at "ea"))
local macro_rules | `(tactic| walk_at "eo") => `(tactic| first
  | with_reducible exact eo_none
  | ((with_reducible apply eo_some); walk_at "ev"))
local macro_rules | `(tactic| walk_at "et") => `(tactic| first
  | ((with_reducible apply et_test); walk_at "ev")
  | ((with_reducible apply et_B); walk_at "ev")
  | ((with_reducible apply et_not); walk_at "et")
  | ((with_reducible apply et_and); walk_at "et"; intro _; walk_at "et")
  | ((with_reducible apply et_or); walk_at "et"; intro _; walk_at "et"))
local macro_rules | `(tactic| walk_at "ev") => `(tactic| first
  | with_reducible exact ev_int | with_reducible exact ev_str | with_reducible exact ev_bl | with_reducible exact ev_non | with_reducible exact ev_val
  | ((with_reducible apply ev_var); exact rfl)
  | ((with_reducible apply ev_op); walk_at "ev"; walk_at "ev"; walk_at "rv")
  | ((with_reducible apply ev_un); walk_at "ev"; exact ru_neg)
  | ((with_reducible apply ev_and); walk_at "ev"; intro _; walk_at "ev")
  | ((with_reducible apply ev_or); walk_at "ev"; intro _; walk_at "ev")
  | ((with_reducible apply ev_not); walk_at "ev")
  | ((with_reducible apply ev_sl); walk_at "ev"; walk_at "eo"; walk_at "eo"; walk_at "rs")
  | ((with_reducible apply ev_chain); walk_at "ev"; walk_at "ev"; walk_at "rv"; (intro _; walk_at "ev"); (intro _; walk_at "rv"))
  | walk_at "ec"
  | ((with_reducible apply ev_if); walk_at "et"; (intro _; walk_at "ev"); (intro _; walk_at "ev"))
  | ((with_reducible apply ev_m0); walk_at "ev"; walk_at "rm")
  | ((with_reducible apply ev_cb); walk_at "ea"; walk_at "rc")
  | ((with_reducible apply ev_tD); walk_at "ea")
  | with_reducible exact ev_rT0 | with_reducible exact ev_rL0
  | ((with_reducible apply ev_rT1); walk_at "ea") | ((with_reducible apply ev_rT2); walk_at "ea") | ((with_reducible apply ev_rT3); walk_at "ea")
  | ((with_reducible apply ev_rL1); walk_at "ea") | ((with_reducible apply ev_rL2); walk_at "ea") | ((with_reducible apply ev_rL3); walk_at "ea") | ((with_reducible apply ev_rL4); walk_at "ea")
  | ((with_reducible apply ev_revW); walk_at "ev"; walk_at "sz")
  | ((with_reducible apply ev_revL); walk_at "ev")
  | ((with_reducible apply ev_revT); walk_at "ev"))
local macro_rules | `(tactic| walk_at "ret") => `(tactic| (apply go_retE; assumption; exact rfl; walk_at "ev"))
local macro_rules | `(tactic| walk_at "if") => `(tactic| (apply go_if; walk_at "et"))
local macro_rules | `(tactic| walk_at "set") => `(tactic| (apply go_set; walk_at "ev"))
local macro_rules | `(tactic| walk_at "eg") => `(tactic| first | exact eg_name (by decide) | exact eg_tD (by decide) (by decide) (by decide))
section
variable {P : Program} {w : World} {K : PySem.W.Frag} {mg : Str → Option Value} {base : Heap} {r : Res} {ds : Sl} {ta : TA}
def sp_is_integer (K : PySem.W.Frag) : Sp := spP K (fun d : PyData => [.d d]) (fun _ => True) fun d => .d (.bool (isInt d && !isBool d))
-- slots: 0=value
theorem sc_is_integer : FnScope ["value"] ["value"] (defScope s_is_integer) := C8.fnScope_by (by decide +kernel)
theorem c_is_integer (T : Tx K mg w) : Cal P w K mg base 1 "is_integer" ["value"] (sp_is_integer K) := by
  refine calG T.e_is_integer T.g_is_integer sc_is_integer (fun _ _ _ _ _ _ us hl => match us, hl with | [_], _ => rfl) (fun _ _ => rfl) fun f cdv A outer s H E hr => ?_
  refine ⟨_, (pss_cons (ps_ret (pe_and (pe_callB call_isi (by rfl) T.f_isinstance (by decide +kernel) (pa_cons (pv 0) (pa_cons (pe_bltn (v := .ty "int") (by rfl) T.f_int (by decide +kernel) rfl) pa_nil))) (pe_one (pe_not (pe_callB call_isi (by rfl) T.f_isinstance (by decide +kernel) (pa_cons (pv 0) (pa_cons (pe_bltn (v := .ty "bool") (by rfl) T.f_bool (by decide +kernel) rfl) pa_nil)))))))
    pss_nil), ?_⟩
  intro a r F0 H0 D hp R
  dsimp only [nox_K]
  walk_at "ret"
  rfl
theorem ec_is_integer {d : PyData} (h : EvA K r ta ds (IsA [.d d])) : Ev K r (tCall (sp_is_integer K) [] E0 ta) ds (Is (.d (.bool (isInt d && !isBool d)))) := ev_call d h rfl trivial
local macro_rules | `(tactic| walk_at "ec") => `(tactic| ((with_reducible apply ec_is_integer); walk_at "ea"))
def sp_is_between (K : PySem.W.Frag) : Sp := spP K (fun a : Int × Int × Int => [.d (.int a.1), .d (.int a.2.1), .d (.int a.2.2)]) (fun _ => True) fun a => .d (.bool (decide (a.2.1 ≤ a.1) && decide (a.1 ≤ a.2.2)))
-- slots: 0=value 1=low 2=high
theorem sc_is_between : FnScope ["value", "low", "high"] ["value", "low", "high"] (defScope s_is_between) := C8.fnScope_by (by decide +kernel)
theorem c_is_between (T : Tx K mg w) : Cal P w K mg base 2 "is_between" ["value", "low", "high"] (sp_is_between K) := by
  refine calG T.e_is_between T.g_is_between sc_is_between (fun _ _ _ _ _ _ us hl => match us, hl with | [_, _, _], _ => rfl) (fun _ _ => rfl) fun f cdv A outer s H E hr => ?_
  refine ⟨_, (pss_cons (ps_ret (pe_and (pe_c (c_is_integer T) hr (by decide) (by rfl) (pa_cons (pv 0) pa_nil)) (pe_one (pe_chain op_le op_le (pv 1) (pv 0) (pv 2)))))
    pss_nil), ?_⟩
  intro a r F0 H0 D hp R
  dsimp only [nox_K]
  walk_at "ret"
  rfl
theorem ec_is_between {x y z : Int} (h : EvA K r ta ds (IsA [.d (.int x), .d (.int y), .d (.int z)])) : Ev K r (tCall (sp_is_between K) [] E0 ta) ds (Is (.d (.bool (decide (y ≤ x) && decide (x ≤ z))))) := ev_call (x, y, z) h rfl trivial
def sp_is_plain (K : PySem.W.Frag) : Sp := spP K (fun t : Tr => [.d (tD t)]) (fun _ => True) fun t => .d (.bool (plain t))
-- slots: 0=item
theorem sc_is_plain : FnScope ["item"] ["item"] (defScope s_is_plain) := C8.fnScope_by (by decide +kernel)
theorem c_is_plain (T : Tx K mg w) : Cal P w K mg base 1 "is_plain" ["item"] (sp_is_plain K) := by
  refine calG T.e_is_plain T.g_is_plain sc_is_plain (fun _ _ _ _ _ _ us hl => match us, hl with | [_], _ => rfl) (fun _ _ => rfl) fun f cdv A outer s H E hr => ?_
  refine ⟨_, (pss_cons (ps_ret (pe_and (pe_cmpR op_eq (pe_ix ix_tup (pv 0) pe_int (fun _ _ => rfl)) pe_int (nomark _)) (pe_one (pe_cmpR op_eq (pe_ix ix_tup (pv 0) pe_int (fun _ _ => rfl)) pe_int (nomark _)))))
    pss_nil), ?_⟩
  intro a r F0 H0 D hp R
  dsimp only [nox_K]
  walk_at "ret"
  rfl
theorem ec_is_plain {t : Tr} (h : EvA K r ta ds (IsA [.d (tD t)])) : Ev K r (tCall (sp_is_plain K) [] E0 ta) ds (Is (.d (.bool (plain t)))) := ev_call t h rfl trivial
local macro_rules | `(tactic| walk_at "ec") => `(tactic| first | ((with_reducible apply ec_is_plain); walk_at "ea") | ((with_reducible apply ec_is_integer); walk_at "ea"))
def sp_do_undo (K : PySem.W.Frag) : Sp := spP K (fun p : Nat × Nat => [.d (.str (S [p.1])), .d (.str (S [p.2]))]) (fun p => p.1 ∈ Lt ∧ p.2 ∈ Lt) fun p => .d (.bool (meets p.1 p.2))
theorem meets_eq (a b : Nat) : (!([a] == [b]) && (([a].map PyProof.Rows.lo1) == ([b].map PyProof.Rows.lo1))) = meets a b := by
  unfold meets
  simp
-- slots: 0=one 1=other
theorem sc_do_undo : FnScope ["one", "other"] ["one", "other"] (defScope s_do_undo) := C8.fnScope_by (by decide +kernel)
theorem c_do_undo (T : Tx K mg w) : Cal P w K mg base 1 "do_undo" ["one", "other"] (sp_do_undo K) := by
  refine calG T.e_do_undo T.g_do_undo sc_do_undo (fun _ _ _ _ _ _ us hl => match us, hl with | [_, _], _ => rfl) (fun _ _ => rfl) fun f cdv A outer s H E hr => ?_
  refine ⟨_, (pss_cons (ps_ret (pe_and (pe_cmpR op_ne (pv 0) (pv 1) (nomark _)) (pe_one (pe_cmpR op_eq (pe_lower (pv 0)) (pe_lower (pv 1)) (nomark _)))))
    pss_nil), ?_⟩
  intro a r F0 H0 D hp R
  dsimp only [nox_K]
  have l1 := lw1 hp.1
  have l2 := lw1 hp.2
  walk_at "ret"
  rw [meets_eq]
theorem ec_do_undo {x y : Nat} (h : EvA K r ta ds (IsA [.d (.str (S [x])), .d (.str (S [y]))])) (h1 : x ∈ Lt) (h2 : y ∈ Lt) : Ev K r (tCall (sp_do_undo K) [] E0 ta) ds (Is (.d (.bool (meets x y)))) := ev_call (x, y) h rfl ⟨h1, h2⟩
def sp_undone_word (K : PySem.W.Frag) : Sp := spP K (fun w : Wd => [.d (.str (S w))]) (fun w => LW w ∧ w.length ≤ 100000) fun w => .d (.str (S (und w)))
-- slots: 0=word 1=letter
theorem sc_undone_word : FnScope ["word", "letter"] ["word"] (defScope s_undone_word) := C8.fnScope_by (by decide +kernel)
theorem c_undone_word (T : Tx K mg w) : Cal P w K mg base 1 "undone_word" ["word"] (sp_undone_word K) := by
  refine calG T.e_undone_word T.g_undone_word sc_undone_word (fun _ _ _ _ _ _ us hl => match us, hl with | [_], _ => rfl) (fun _ _ => rfl) fun f cdv A outer s H E hr => ?_
  refine ⟨_, (pss_cons (ps_ret (pe_join pe_str (pe_lc (te := (tIf (tTest (tOp _ (tVar 1) (L2.tSl C8.rSlX _ (tPart _) tNoPart))) (tM0 _ (tVar 1)) (tM0 _ (tVar 1)))) (own := [("letter", 1)]) (g := (gName 1)) (tt := tYes) rfl sc_undone_word.nd (pi_str (pe_revS (pv 0))) (blkOk_by (own := [("letter", 1)]) (N := ["word", "letter"]) (sc := defScope s_undone_word) (by decide +kernel)) (fun _ _ _ _ _ => (pg_name (i := 1) sc_undone_word.nd rfl (Or.inl rfl))) (fun _ _ _ _ _ => pts_nil) (fun _ _ _ _ _ => (pe_ifExp (pt_cmpR op_in_sign (pv 1) (pe_slice C8.sl_txt (pe_gc (by rfl) T.s_LETTERS) (po_some pe_int) po_none) (by rfl)) (pe_lower (pv 1)) (pe_upper (pv 1)))))))
    pss_nil), ?_⟩
  intro a r F0 H0 D hp R
  dsimp only [nox_K]
  obtain ⟨hw, hl⟩ := hp
  refine go_retI R (w := .d (.str (S (und a)))) (evn_m1 ev_str (ev_lcmap (ds' := fun c => [some (.d (.str (S a))), some (.d (.str ⟨#[c]⟩))]) (fd := fun c => .str (S [flp c])) a.reverse (ei_w (ev_revW (ev_var rfl) hl)) (by rw [List.length_reverse]; exact hl) (fun c _ => eg_name (by decide)) fun c hc => ?_) fun w e => ?_) rfl
  · have hc' := lw1 (hw c (List.mem_reverse.mp hc))
    refine evn_if (et_test (ev_op (ev_var rfl) (ev_sl ev_str (eo_some ev_int) eo_none (rs_str (by decide))) rv_inSign)) (fun e => ?_) fun e => ?_
    · have e' := of_decide_eq_true e.symm
      rw [upper_eq] at e'
      refine (ev_m0 (ev_var rfl) (rm_lowW hc' (by simp))).imp fun w ew => ?_
      rw [ew, List.map_singleton, flp_lo c (hw c (List.mem_reverse.mp hc)) e']
    · have e' := of_decide_eq_false e.symm
      rw [upper_eq] at e'
      refine (ev_m0 (ev_var rfl) (rm_upW hc' (by simp))).imp fun w ew => ?_
      rw [ew, List.map_singleton, flp_up c (hw c (List.mem_reverse.mp hc)) e']
  · subst e
    have z := rm_join (K := K) (r := r) (x := S []) (zs := a.reverse.map fun c => S [flp c]) (by rw [sum_ones _ (by intro z hz; obtain ⟨c, _, rfl⟩ := List.mem_map.mp hz; rfl), List.length_map, List.length_reverse]; show _ + _ * 0 ≤ _; omega)
    rw [join_w] at z
    rw [List.map_map] at z
    exact z
theorem ec_undone_word {x : Wd} (h : EvA K r ta ds (IsA [.d (.str (S x))])) (h1 : LW x) (h2 : x.length ≤ 100000) : Ev K r (tCall (sp_undone_word K) [] E0 ta) ds (Is (.d (.str (S (und x))))) := ev_call x h rfl ⟨h1, h2⟩
local macro_rules | `(tactic| walk_at "ec") => `(tactic| first | ((with_reducible apply ec_is_plain); walk_at "ea") | ((with_reducible apply ec_is_integer); walk_at "ea") | ((with_reducible apply ec_undone_word); walk_at "ea"; assumption; walk_at "sz") | ((with_reducible apply ec_do_undo); walk_at "ea"; assumption; assumption))
theorem if_opt {c : Bool} {x : Row} : (if c = true then Da.d (.tuple (tsD x)) else Da.d .none) = .d (optT (if c = true then some x else none)) := by
  cases c <;> rfl
def sp_left_out (K : PySem.W.Frag) : Sp := spP K (fun t : Tr => [.d (tD t)]) (fun _ => True) fun t => .d (optT (aOut t))
-- slots: 0=item
theorem sc_left_out : FnScope ["item"] ["item"] (defScope s_left_out) := C8.fnScope_by (by decide +kernel)
theorem c_left_out (T : Tx K mg w) : Cal P w K mg base 1 "left_out" ["item"] (sp_left_out K) := by
  refine calG T.e_left_out T.g_left_out sc_left_out (fun _ _ _ _ _ _ us hl => match us, hl with | [_], _ => rfl) (fun _ _ => rfl) fun f cdv A outer s H E hr => ?_
  refine ⟨_, (pss_cons (ps_ret (pe_ifExp (PW.pt (pw_or (pt_cmpR op_eq (pe_ix ix_tup (pv 0) pe_int (fun _ _ => rfl)) pe_str (nomark _)) (pw_or1 (PW.pt (pw_and (pt_cmpR op_eq (pe_ix ix_tup (pv 0) pe_int (fun _ _ => rfl)) pe_int (nomark _)) (pw_and1 (pt_cmpR op_eq (pe_ix ix_tup (pv 0) pe_int (fun _ _ => rfl)) pe_int (nomark _)))))))) (pe_tup pa_nil) pe_non))
    pss_nil), ?_⟩
  intro a r F0 H0 D hp R
  dsimp only [nox_K]
  walk_at "ret"
  exact if_opt
def okW (t : Tr) : Prop := LW t.1 ∧ t.1.length ≤ 50000
def sp_turned (K : PySem.W.Frag) : Sp := spP K (fun t : Tr => [.d (tD t)]) okW fun t => .d (.tuple (tsD (aTurn t)))
-- slots: 0=item
theorem sc_turned : FnScope ["item"] ["item"] (defScope s_turned) := C8.fnScope_by (by decide +kernel)
theorem c_turned (T : Tx K mg w) : Cal P w K mg base 2 "turned" ["item"] (sp_turned K) := by
  refine calG T.e_turned T.g_turned sc_turned (fun _ _ _ _ _ _ us hl => match us, hl with | [_], _ => rfl) (fun _ _ => rfl) fun f cdv A outer s H E hr => ?_
  refine ⟨_, (pss_cons (ps_ret (pe_tup (pa_cons (pe_tup (pa_cons (pe_c (c_undone_word T) hr (by decide) (by rfl) (pa_cons (pe_ix ix_tup (pv 0) pe_int (fun _ _ => rfl)) pa_nil)) (pa_cons (pe_op op_sub pe_int (pe_ix ix_tup (pv 0) pe_int (fun _ _ => rfl))) (pa_cons (pe_op op_sub pe_int (pe_ix ix_tup (pv 0) pe_int (fun _ _ => rfl))) pa_nil)))) pa_nil)))
    pss_nil), ?_⟩
  intro a r F0 H0 D hp R
  dsimp only [nox_K]
  obtain ⟨hw, hl⟩ := hp
  walk_at "ret"
  simp only [aTurn, Int.zero_sub]
def sp_joined (K : PySem.W.Frag) : Sp := spP K (fun t : Tr × Tr => [.d (tD t.1), .d (tD t.2)]) (fun _ => True) fun t => .d (optT (aJoin t.1 t.2))
-- slots: 0=item 1=more
theorem sc_joined : FnScope ["item", "more"] ["item", "more"] (defScope s_joined) := C8.fnScope_by (by decide +kernel)
theorem c_joined (T : Tx K mg w) : Cal P w K mg base 1 "joined" ["item", "more"] (sp_joined K) := by
  refine calG T.e_joined T.g_joined sc_joined (fun _ _ _ _ _ _ us hl => match us, hl with | [_, _], _ => rfl) (fun _ _ => rfl) fun f cdv A outer s H E hr => ?_
  refine ⟨_, (pss_cons (ps_ret (pe_ifExp (pt_cmpR op_eq (pe_ix ix_tup (pv 0) pe_int (fun _ _ => rfl)) (pe_ix ix_tup (pv 1) pe_int (fun _ _ => rfl)) (nomark _)) (pe_tup (pa_cons (pe_tup (pa_cons (pe_ix ix_tup (pv 0) pe_int (fun _ _ => rfl)) (pa_cons (pe_op op_add (pe_ix ix_tup (pv 0) pe_int (fun _ _ => rfl)) (pe_ix ix_tup (pv 1) pe_int (fun _ _ => rfl))) (pa_cons (pe_op op_add (pe_ix ix_tup (pv 0) pe_int (fun _ _ => rfl)) (pe_ix ix_tup (pv 1) pe_int (fun _ _ => rfl))) pa_nil)))) pa_nil)) pe_non))
    pss_nil), ?_⟩
  intro a r F0 H0 D hp R
  dsimp only [nox_K]
  walk_at "ret"
  exact if_opt
def sp_parted (K : PySem.W.Frag) : Sp := spP K (fun t : Tr × Int × Int => [.d (tD t.1), .d (.int t.2.1), .d (.int t.2.2)]) (fun _ => True) fun t => .d (.tuple (tsD (aSplit t.1 t.2.1 t.2.2)))
-- slots: 0=item 1=times 2=over
theorem sc_parted : FnScope ["item", "times", "over"] ["item", "times", "over"] (defScope s_parted) := C8.fnScope_by (by decide +kernel)
theorem c_parted (T : Tx K mg w) : Cal P w K mg base 1 "parted" ["item", "times", "over"] (sp_parted K) := by
  refine calG T.e_parted T.g_parted sc_parted (fun _ _ _ _ _ _ us hl => match us, hl with | [_, _, _], _ => rfl) (fun _ _ => rfl) fun f cdv A outer s H E hr => ?_
  refine ⟨_, (pss_cons (ps_ret (pe_tup (pa_cons (pe_tup (pa_cons (pe_ix ix_tup (pv 0) pe_int (fun _ _ => rfl)) (pa_cons (pe_op op_sub (pe_ix ix_tup (pv 0) pe_int (fun _ _ => rfl)) (pv 1)) (pa_cons (pe_op op_sub (pe_ix ix_tup (pv 0) pe_int (fun _ _ => rfl)) (pv 2)) pa_nil)))) (pa_cons (pe_tup (pa_cons (pe_ix ix_tup (pv 0) pe_int (fun _ _ => rfl)) (pa_cons (pv 1) (pa_cons (pv 2) pa_nil)))) pa_nil))))
    pss_nil), ?_⟩
  intro a r F0 H0 D hp R
  dsimp only [nox_K]
  walk_at "ret"
  rfl
end
end Kn

set_option Elab.async false
set_option linter.all false
set_option maxRecDepth 100000
set_option maxHeartbeats 4000000
/-! The program's defs of single steps. -/
namespace Kn
open PySem PySem.Spec PyProof.Rows L2
local macro_rules | `(tactic| walk_at "sd") => `(tactic| first | trivial | assumption | walk_at "sz")
local macro_rules | `(tactic| walk_at "sz") => `(tactic| first | assumption | decide | omega | rfl | (simp only [List.length_append, List.length_map, List.length_cons, List.length_nil, List.length_reverse]; omega))
local macro_rules | `(tactic| walk_at "rv") => `(tactic| with_reducible first
  | exact rv_ix0 | exact rv_ix1 | exact rv_ix2 | exact rv_eqI | exact rv_neI | exact rv_eqE | exact rv_neE | exact rv_eqW | exact rv_neW | exact rv_eqS | exact rv_neS
  | exact rv_int0 | exact rv_bl0
  | exact rv_ixT0 | exact rv_ixT1
  | exact rv_ixRT (by assumption) | exact rv_ixRL (by assumption) | (apply rv_ixW; walk_at "sz"; assumption)
  | (refine rv_addW ?_; walk_at "sz")
  | (refine rv_catRT ?_; walk_at "sz") | (refine rv_catRL ?_; walk_at "sz")
  | (refine rv_intC ?_; assumption) | (apply rv_mulW; walk_at "sz"; walk_at "sz"; walk_at "sz")
  | exact rv_inW | exact rv_inSign | exact rv_isN | exact rv_notN | exact rv_notBl
  | exact rv_ixT (by with_unfolding_all rfl) | exact rv_ixL (by with_unfolding_all rfl)
  | exact rv_ixT (by assumption) | exact rv_ixL (by assumption)
  | (refine rv_catA ?_; walk_at "sz") | (refine rv_cat ?_; walk_at "sz"))
local macro_rules | `(tactic| walk_at "rs") => `(tactic| with_reducible first
  | exact rs_rT | exact rs_rL
  | (refine rs_w ?_ ?_; walk_at "sz"; (with_unfolding_all first | exact Nat.zero_le _ | exact HT.sIx_le _ _ (Nat.zero_le _) _ | assumption))
  | exact rs_tup | exact rs_list
  | (refine rs_str ?_; walk_at "sz"))
local macro_rules | `(tactic| walk_at "rc") => `(tactic| with_reducible first
  | exact rc_lenD3 | exact rc_lenRT | exact rc_lenRL | exact rc_lenT | exact rc_lenL | (refine rc_lenW ?_; walk_at "sz") | (refine rc_lenS ?_; walk_at "sz")
  | exact rc_isi (kit_int _) | exact rc_isi (kit_bool _) | exact rc_isi (kit_str _) | exact rc_isi (kit_tup _)
  | exact rc_max | exact rc_min | exact rc_int | exact rc_abs | exact rc_all | exact rc_tupL | exact rc_tupT | exact rc_list | exact rc_listT | (refine rc_listW ?_; walk_at "sz"))
local macro_rules | `(tactic| walk_at "rm") => `(tactic| first | (with_reducible apply rm_lowW; assumption; walk_at "sz") | (with_reducible apply rm_upW; assumption; walk_at "sz"))
local macro_rules | `(tactic| walk_at "ea") => `(tactic| first
  | with_reducible exact ea_nil
  | ((with_reducible apply ea_cons); walk_at "ev"; walk_at "ea"))
local macro_rules | `(tactic| walk_at "eo") => `(tactic| first
  | with_reducible exact eo_none
  | ((with_reducible apply eo_some); walk_at "ev"))
local macro_rules | `(tactic| walk_at "et") => `(tactic| first
  | ((with_reducible apply et_test); walk_at "ev")
  | ((with_reducible apply et_B); walk_at "ev")
  | ((with_reducible apply et_not); walk_at "et")
  | ((with_reducible apply et_and); walk_at "et"; intro _; walk_at "et")
  | ((with_reducible apply et_or); walk_at "et"; intro _; walk_at "et"))
local macro_rules | `(tactic| walk_at "ev") => `(tactic| first
  | with_reducible exact ev_int | with_reducible exact ev_str | with_reducible exact ev_bl | with_reducible exact ev_non | with_reducible exact ev_val
  | ((with_reducible apply ev_var); exact rfl)
  | ((with_reducible apply ev_op); walk_at "ev"; walk_at "ev"; walk_at "rv")
  | ((with_reducible apply ev_un); walk_at "ev"; exact ru_neg)
  | ((with_reducible apply ev_and); walk_at "ev"; intro _; walk_at "ev")
  | ((with_reducible apply ev_or); walk_at "ev"; intro _; walk_at "ev")
  | ((with_reducible apply ev_not); walk_at "ev")
  | ((with_reducible apply ev_sl); walk_at "ev"; walk_at "eo"; walk_at "eo"; walk_at "rs")
  | ((with_reducible apply ev_chain); walk_at "ev"; walk_at "ev"; walk_at "rv"; (intro _; walk_at "ev"); (intro _; walk_at "rv"))
  | walk_at "ec"
  | ((with_reducible apply ev_if); walk_at "et"; (intro _; walk_at "ev"); (intro _; walk_at "ev"))
  | ((with_reducible apply ev_m0); walk_at "ev"; walk_at "rm")
  | ((with_reducible apply ev_cb); walk_at "ea"; walk_at "rc")
  | ((with_reducible apply ev_tD); walk_at "ea")
  | with_reducible exact ev_rT0 | with_reducible exact ev_rL0
  | ((with_reducible apply ev_rT1); walk_at "ea") | ((with_reducible apply ev_rT2); walk_at "ea") | ((with_reducible apply ev_rT3); walk_at "ea")
  | ((with_reducible apply ev_rL1); walk_at "ea") | ((with_reducible apply ev_rL2); walk_at "ea") | ((with_reducible apply ev_rL3); walk_at "ea") | ((with_reducible apply ev_rL4); walk_at "ea")
  | ((with_reducible apply ev_revW); walk_at "ev"; walk_at "sz")
  | ((with_reducible apply ev_revL); walk_at "ev")
  | ((with_reducible apply ev_revT); walk_at "ev"))
local macro_rules | `(tactic| walk_at "ret") => `(tactic| (apply go_retE; assumption; exact rfl; walk_at "ev"))
local macro_rules | `(tactic| walk_at "if") => `(tactic| (apply go_if; walk_at "et"))
local macro_rules | `(tactic| walk_at "set") => `(tactic| (apply go_set; walk_at "ev"))
local macro_rules | `(tactic| walk_at "eg") => `(tactic| first | exact eg_name (by decide) | exact eg_tD (by decide) (by decide) (by decide))
local macro_rules | `(tactic| walk_at "ec") => `(tactic| first | ((with_reducible apply ec_is_plain); walk_at "ea") | ((with_reducible apply ec_is_integer); walk_at "ea") | ((with_reducible apply ec_do_undo); walk_at "ea"; walk_at "sd"; walk_at "sd") | ((with_reducible apply ec_undone_word); walk_at "ea"; walk_at "sd"; walk_at "sd"))
section
variable {P : Program} {w : World} {K : PySem.W.Frag} {mg : Str → Option Value} {base : Heap} {r : Res} {ds : Sl} {ta : TA}
theorem b_ff {b : Bool} (h : b = false) : ¬ b = true := by rw [h]; exact Bool.false_ne_true
theorem LW.cut {w : Wd} {lo hi : Option Int} (h : LW w) : LW (cutG w lo hi) := fun c hc => h c (cutG_mem hc)
def sp_cut_at (K : PySem.W.Frag) : Sp := spP K (fun t : Tr × Int => [.d (tD t.1), .d (.int t.2)]) (fun t => okW t.1) fun t => .d (optT (aCut t.1 t.2))
-- slots: 0=item 1=size
theorem sc_cut_at : FnScope ["item", "size"] ["item", "size"] (defScope s_cut_at) := C8.fnScope_by (by decide +kernel)
theorem c_cut_at (T : Tx K mg w) : Cal P w K mg base 2 "cut_at" ["item", "size"] (sp_cut_at K) := by
  refine calG T.e_cut_at T.g_cut_at sc_cut_at (fun _ _ _ _ _ _ us hl => match us, hl with | [_, _], _ => rfl) (fun _ _ => rfl) fun f cdv A outer s H E hr => ?_
  refine ⟨_, (pss_cons (ps_if (PW.pt (pw_or (pt_not (pt_val (pe_c (c_is_plain T) hr (by decide) (by rfl) (pa_cons (pv 0) pa_nil)))) (pw_or1 (pt_not (pt_chain op_lt op_lt pe_int (pv 1) (pe_callB call_len_str (by rfl) T.f_len PySem.boot_len (pa_cons (pe_ix ix_tup (pv 0) pe_int (fun _ _ => rfl)) pa_nil))))))) (pss_cons (ps_ret pe_non)
    pss_nil) pss_nil)
    (pss_cons (ps_ret (pe_tup (pa_cons (pe_tup (pa_cons (pe_slice C8.sl_txt (pe_ix ix_tup (pv 0) pe_int (fun _ _ => rfl)) po_none (po_some (pv 1))) (pa_cons pe_int (pa_cons pe_int pa_nil)))) (pa_cons (pe_tup (pa_cons (pe_slice C8.sl_txt (pe_ix ix_tup (pv 0) pe_int (fun _ _ => rfl)) (po_some (pv 1)) po_none) (pa_cons pe_int (pa_cons pe_int pa_nil)))) pa_nil))))
    pss_nil)), ?_⟩
  intro a r F0 H0 D hp R
  dsimp only [nox_K]
  obtain ⟨hw, hl⟩ := hp
  walk_at "if"
  · intro e
    walk_at "ret"
    unfold aCut
    rw [if_pos e]
    rfl
  · intro e
    apply go_skip
    walk_at "ret"
    unfold aCut
    rw [if_neg (b_ff e)]
    rfl
def sp_glued (K : PySem.W.Frag) : Sp := spP K (fun t : Tr × Tr => [.d (tD t.1), .d (tD t.2)]) (fun t => okW t.1 ∧ okW t.2) fun t => .d (optT (aGlue t.1 t.2))
-- slots: 0=item 1=more
theorem sc_glued : FnScope ["item", "more"] ["item", "more"] (defScope s_glued) := C8.fnScope_by (by decide +kernel)
theorem c_glued (T : Tx K mg w) : Cal P w K mg base 2 "glued" ["item", "more"] (sp_glued K) := by
  refine calG T.e_glued T.g_glued sc_glued (fun _ _ _ _ _ _ us hl => match us, hl with | [_, _], _ => rfl) (fun _ _ => rfl) fun f cdv A outer s H E hr => ?_
  refine ⟨_, (pss_cons (ps_ret (pe_ifExp (PW.pt (pw_and (pt_val (pe_c (c_is_plain T) hr (by decide) (by rfl) (pa_cons (pv 0) pa_nil))) (pw_and1 (pt_val (pe_c (c_is_plain T) hr (by decide) (by rfl) (pa_cons (pv 1) pa_nil)))))) (pe_tup (pa_cons (pe_tup (pa_cons (pe_op op_add_str (pe_ix ix_tup (pv 0) pe_int (fun _ _ => rfl)) (pe_ix ix_tup (pv 1) pe_int (fun _ _ => rfl))) (pa_cons pe_int (pa_cons pe_int pa_nil)))) pa_nil)) pe_non))
    pss_nil), ?_⟩
  intro a r F0 H0 D hp R
  dsimp only [nox_K]
  obtain ⟨⟨hw, hl⟩, hw2, hl2⟩ := hp
  walk_at "ret"
  exact if_opt
def sp_unpaired (K : PySem.W.Frag) : Sp := spP K (fun t : Tr × Int => [.d (tD t.1), .d (.int t.2)]) (fun t => okW t.1) fun t => .d (optT (aUndo t.1 t.2))
-- slots: 0=item 1=place 2=word
theorem sc_unpaired : FnScope ["item", "place", "word"] ["item", "place"] (defScope s_unpaired) := C8.fnScope_by (by decide +kernel)
theorem c_unpaired (T : Tx K mg w) : Cal P w K mg base 2 "unpaired" ["item", "place"] (sp_unpaired K) := by
  refine calG T.e_unpaired T.g_unpaired sc_unpaired (fun _ _ _ _ _ _ us hl => match us, hl with | [_, _], _ => rfl) (fun _ _ => rfl) fun f cdv A outer s H E hr => ?_
  refine ⟨_, (pss_cons (ps_set (i := 2) sc_unpaired.nd rfl (Or.inl rfl) (pe_ix ix_tup (pv 0) pe_int (fun _ _ => rfl)))
    (pss_cons (ps_if (PW.pt (pw_or (pt_not (pt_chain op_le op_lt pe_int (pv 1) (pe_op op_sub (pe_callB call_len_str (by rfl) T.f_len PySem.boot_len (pa_cons (pv 2) pa_nil)) pe_int))) (pw_or1 (pt_not (pt_val (pe_c (c_do_undo T) hr (by decide) (by rfl) (pa_cons (pe_ix ix_str (pv 2) (pv 1) (fun _ _ => rfl)) (pa_cons (pe_ix ix_str (pv 2) (pe_op op_add (pv 1) pe_int) (fun _ _ => rfl)) pa_nil)))))))) (pss_cons (ps_ret pe_non)
    pss_nil) pss_nil)
    (pss_cons (ps_ret (pe_tup (pa_cons (pe_tup (pa_cons (pe_op op_add_str (pe_slice C8.sl_txt (pv 2) po_none (po_some (pv 1))) (pe_slice C8.sl_txt (pv 2) (po_some (pe_op op_add (pv 1) pe_int)) po_none)) (pa_cons (pe_ix ix_tup (pv 0) pe_int (fun _ _ => rfl)) (pa_cons (pe_ix ix_tup (pv 0) pe_int (fun _ _ => rfl)) pa_nil)))) pa_nil)))
    pss_nil))), ?_⟩
  intro a r F0 H0 D hp R
  dsimp only [nox_K]
  obtain ⟨⟨w0, p, q⟩, z⟩ := a
  obtain ⟨hw, hl⟩ := hp
  dsimp only at hw hl ⊢
  walk_at "set"
  apply go_if (b := !(decide (0 ≤ z) && decide (z < (w0.length : Int) - 1)) || !meetAt w0 z)
  · apply et_or
    · walk_at "et"
    · intro e
      rw [Bool.not_eq_false', Bool.and_eq_true] at e
      have e1 := of_decide_eq_true e.1
      have e2 := of_decide_eq_true e.2
      obtain ⟨x, hx, _, mx⟩ := atI_ex (l := w0) e1 (by omega)
      obtain ⟨y, hy, _, my⟩ := atI_ex (l := w0) (i := z + 1) (by omega) (by omega)
      have lx := hw x mx
      have ly := hw y my
      have em : meetAt w0 z = meets x y := by
        unfold meetAt
        rw [hx, hy]
      rw [em]
      walk_at "et"
  · intro e
    walk_at "ret"
    unfold aUndo
    rw [if_pos e]
    rfl
  · intro e
    apply go_skip
    have l1 := cutG_len w0 none (some z)
    have l2 := cutG_len w0 (some (z + 2)) none
    walk_at "ret"
    unfold aUndo
    rw [if_neg (b_ff e)]
    rfl
def sp_passed (K : PySem.W.Frag) : Sp := spP K (fun t : Tr × Tr × Int => [.d (tD t.1), .d (tD t.2.1), .d (.int t.2.2)]) (fun t => okW t.1 ∧ okW t.2.1) fun t => .d (optT (aBack t.1 t.2.1 t.2.2))
-- slots: 0=item 1=more 2=size 3=word
theorem sc_passed : FnScope ["item", "more", "size", "word"] ["item", "more", "size"] (defScope s_passed) := C8.fnScope_by (by decide +kernel)
theorem c_passed (T : Tx K mg w) : Cal P w K mg base 2 "passed" ["item", "more", "size"] (sp_passed K) := by
  refine calG T.e_passed T.g_passed sc_passed (fun _ _ _ _ _ _ us hl => match us, hl with | [_, _, _], _ => rfl) (fun _ _ => rfl) fun f cdv A outer s H E hr => ?_
  refine ⟨_, (pss_cons (ps_set (i := 3) sc_passed.nd rfl (Or.inl rfl) (pe_ix ix_tup (pv 0) pe_int (fun _ _ => rfl)))
    (pss_cons (ps_if (PW.pt (pw_or (pt_not (pt_val (pe_c (c_is_plain T) hr (by decide) (by rfl) (pa_cons (pv 0) pa_nil)))) (pw_or (pt_cmpR op_ne (pe_callB call_len_str (by rfl) T.f_len PySem.boot_len (pa_cons (pv 3) pa_nil)) (pv 2) (nomark _)) (pw_or (pt_cmpR op_lt (pv 2) pe_int (nomark _)) (pw_or1 (pt_cmpR op_lt (pe_callB call_len_str (by rfl) T.f_len PySem.boot_len (pa_cons (pe_ix ix_tup (pv 1) pe_int (fun _ _ => rfl)) pa_nil)) (pv 2) (nomark _))))))) (pss_cons (ps_ret pe_non)
    pss_nil) pss_nil)
    (pss_cons (ps_if (pt_cmpR op_ne (pe_slice C8.sl_txt (pe_ix ix_tup (pv 1) pe_int (fun _ _ => rfl)) (po_some (pe_op op_sub (pe_callB call_len_str (by rfl) T.f_len PySem.boot_len (pa_cons (pe_ix ix_tup (pv 1) pe_int (fun _ _ => rfl)) pa_nil)) (pv 2))) po_none) (pv 3) (nomark _)) (pss_cons (ps_ret pe_non)
    pss_nil) pss_nil)
    (pss_cons (ps_ret (pe_tup (pa_cons (pe_tup (pa_cons (pe_op op_add_str (pv 3) (pe_slice C8.sl_txt (pe_ix ix_tup (pv 1) pe_int (fun _ _ => rfl)) po_none (po_some (pe_op op_sub (pe_callB call_len_str (by rfl) T.f_len PySem.boot_len (pa_cons (pe_ix ix_tup (pv 1) pe_int (fun _ _ => rfl)) pa_nil)) (pv 2))))) (pa_cons (pe_ix ix_tup (pv 1) pe_int (fun _ _ => rfl)) (pa_cons (pe_ix ix_tup (pv 1) pe_int (fun _ _ => rfl)) pa_nil)))) (pa_cons (pe_tup (pa_cons (pv 3) (pa_cons pe_int (pa_cons pe_int pa_nil)))) pa_nil))))
    pss_nil)))), ?_⟩
  intro a r F0 H0 D hp R
  dsimp only [nox_K]
  obtain ⟨⟨w0, p, q⟩, ⟨w1, p1, q1⟩, z⟩ := a
  obtain ⟨⟨hw, hl⟩, hw1, hl1⟩ := hp
  dsimp only at hw hl hw1 hl1 ⊢
  walk_at "set"
  walk_at "if"
  · intro e
    walk_at "ret"
    unfold aBack
    rw [if_pos e]
    rfl
  · intro e
    apply go_skip
    walk_at "if"
    · intro e2
      walk_at "ret"
      unfold aBack
      rw [if_neg (b_ff e), if_pos e2]
      rfl
    · intro e2
      apply go_skip
      have l1 := cutG_len w1 none (some ((w1.length : Int) - z))
      walk_at "ret"
      unfold aBack
      rw [if_neg (b_ff e), if_neg (b_ff e2)]
      rfl
def sp_opened (K : PySem.W.Frag) : Sp := spP K (fun t : Tr × Int => [.d (tD t.1), .d (.int t.2)]) (fun t => okW t.1) fun t => .d (optT (aOpen t.1 t.2))
-- slots: 0=item 1=size 2=word 3=middle
theorem sc_opened : FnScope ["item", "size", "word", "middle"] ["item", "size"] (defScope s_opened) := C8.fnScope_by (by decide +kernel)
theorem c_opened (T : Tx K mg w) : Cal P w K mg base 2 "opened" ["item", "size"] (sp_opened K) := by
  refine calG T.e_opened T.g_opened sc_opened (fun _ _ _ _ _ _ us hl => match us, hl with | [_, _], _ => rfl) (fun _ _ => rfl) fun f cdv A outer s H E hr => ?_
  refine ⟨_, (pss_cons (ps_set (i := 2) sc_opened.nd rfl (Or.inl rfl) (pe_ix ix_tup (pv 0) pe_int (fun _ _ => rfl)))
    (pss_cons (ps_if (PW.pt (pw_or (pt_not (pt_cmpR op_lt pe_int (pv 1) (nomark _))) (pw_or (pt_cmpR op_ge (pe_op op_mul pe_int (pv 1)) (pe_callB call_len_str (by rfl) T.f_len PySem.boot_len (pa_cons (pv 2) pa_nil)) (nomark _)) (pw_or1 (pt_cmpR op_ne (pe_c (c_undone_word T) hr (by decide) (by rfl) (pa_cons (pe_slice C8.sl_txt (pv 2) po_none (po_some (pv 1))) pa_nil)) (pe_slice C8.sl_txt (pv 2) (po_some (pe_op op_sub (pe_callB call_len_str (by rfl) T.f_len PySem.boot_len (pa_cons (pv 2) pa_nil)) (pv 1))) po_none) (nomark _)))))) (pss_cons (ps_ret pe_non)
    pss_nil) pss_nil)
    (pss_cons (ps_set (i := 3) sc_opened.nd rfl (Or.inl rfl) (pe_slice C8.sl_txt (pv 2) (po_some (pv 1)) (po_some (pe_op op_sub (pe_callB call_len_str (by rfl) T.f_len PySem.boot_len (pa_cons (pv 2) pa_nil)) (pv 1)))))
    (pss_cons (ps_ret (pe_tup (pa_cons (pe_tup (pa_cons (pe_slice C8.sl_txt (pv 2) po_none (po_some (pv 1))) (pa_cons pe_int (pa_cons pe_int pa_nil)))) (pa_cons (pe_tup (pa_cons (pv 3) (pa_cons (pe_ix ix_tup (pv 0) pe_int (fun _ _ => rfl)) (pa_cons (pe_ix ix_tup (pv 0) pe_int (fun _ _ => rfl)) pa_nil)))) (pa_cons (pe_tup (pa_cons (pe_c (c_undone_word T) hr (by decide) (by rfl) (pa_cons (pe_slice C8.sl_txt (pv 2) po_none (po_some (pv 1))) pa_nil)) (pa_cons pe_int (pa_cons pe_int pa_nil)))) pa_nil)))))
    pss_nil)))), ?_⟩
  intro a r F0 H0 D hp R
  dsimp only [nox_K]
  obtain ⟨⟨w0, p, q⟩, z⟩ := a
  obtain ⟨hw, hl⟩ := hp
  dsimp only at hw hl ⊢
  walk_at "set"
  have c2 : CMul 2 z := .inl ⟨by decide, by decide⟩
  have l1 := cutG_len w0 none (some z)
  have hc : LW (cutG w0 none (some z)) := hw.cut
  walk_at "if"
  · intro e
    walk_at "ret"
    unfold aOpen
    rw [if_pos e]
    rfl
  · intro e
    apply go_skip
    have e' := e
    rw [Bool.or_eq_false_iff, Bool.or_eq_false_iff, Bool.not_eq_false'] at e'
    have e1 := of_decide_eq_true e'.1
    have e2 := of_decide_eq_false e'.2.1
    dsimp only at e1 e2
    have l2 : HT.sIx w0.length 0 (some z) ≤ HT.sIx w0.length w0.length (some ((w0.length : Int) - z)) := by
      unfold HT.sIx
      dsimp only
      rw [if_neg (by omega), if_neg (by omega)]
      omega
    walk_at "set"
    walk_at "ret"
    unfold aOpen
    rw [if_neg (b_ff e)]
    rfl
def sp_rooted (K : PySem.W.Frag) : Sp := spP K (fun t : Tr × Int => [.d (tD t.1), .d (.int t.2)]) (fun t => okW t.1) fun t => .d (optT (aRoot t.1 t.2))
-- slots: 0=item 1=times 2=word 3=part
theorem sc_rooted : FnScope ["item", "times", "word", "part"] ["item", "times"] (defScope s_rooted) := C8.fnScope_by (by decide +kernel)
theorem c_rooted (T : Tx K mg w) : Cal P w K mg base 1 "rooted" ["item", "times"] (sp_rooted K) := by
  refine calG T.e_rooted T.g_rooted sc_rooted (fun _ _ _ _ _ _ us hl => match us, hl with | [_, _], _ => rfl) (fun _ _ => rfl) fun f cdv A outer s H E hr => ?_
  refine ⟨_, (pss_cons (ps_set (i := 2) sc_rooted.nd rfl (Or.inl rfl) (pe_ix ix_tup (pv 0) pe_int (fun _ _ => rfl)))
    (pss_cons (ps_if (PW.pt (pw_or (pt_cmpR op_lt (pv 1) pe_int (nomark _)) (pw_or (pt_cmpR op_eq (pe_callB call_len_str (by rfl) T.f_len PySem.boot_len (pa_cons (pv 2) pa_nil)) pe_int (nomark _)) (pw_or1 (pt_cmpR op_ne (pe_op op_mod (pe_callB call_len_str (by rfl) T.f_len PySem.boot_len (pa_cons (pv 2) pa_nil)) (pv 1)) pe_int (nomark _)))))) (pss_cons (ps_ret pe_non)
    pss_nil) pss_nil)
    (pss_cons (ps_set (i := 3) sc_rooted.nd rfl (Or.inl rfl) (pe_slice C8.sl_txt (pv 2) po_none (po_some (pe_op op_fdivW (pe_callB call_len_str (by rfl) T.f_len PySem.boot_len (pa_cons (pv 2) pa_nil)) (pv 1)))))
    (pss_cons (ps_ret (pe_ifExp (pt_cmpR op_eq (pe_op op_mulS (pv 3) (pv 1)) (pv 2) (nomark _)) (pe_tup (pa_cons (pe_tup (pa_cons (pv 3) (pa_cons (pe_op op_mul (pe_ix ix_tup (pv 0) pe_int (fun _ _ => rfl)) (pv 1)) (pa_cons (pe_op op_mul (pe_ix ix_tup (pv 0) pe_int (fun _ _ => rfl)) (pv 1)) pa_nil)))) pa_nil)) pe_non))
    pss_nil)))), ?_⟩
  intro a r F0 H0 D hp R
  dsimp only [nox_K]
  obtain ⟨⟨w0, p, q⟩, z⟩ := a
  obtain ⟨hw, hl⟩ := hp
  dsimp only at hw hl ⊢
  walk_at "set"
  apply go_if
  · apply et_or
    · walk_at "et"
    · intro e
      have e1 := of_decide_eq_false e
      have e2 : 0 < z := by omega
      walk_at "et"
  · intro e
    walk_at "ret"
    unfold aRoot
    rw [if_pos e]
    rfl
  · intro e
    apply go_skip
    have e' := e
    rw [Bool.or_eq_false_iff, Bool.or_eq_false_iff] at e'
    have e1 := of_decide_eq_false e'.1
    have e2 : (w0.length : Int) % z = 0 := by
      have := e'.2.2
      rw [Bool.not_eq_false'] at this
      exact eq_of_beq this
    have e3 : (w0.length : Int) ≠ 0 := fun h => by
      have := e'.2.1
      rw [h] at this
      cases this
    have e4 : z ≤ w0.length := Int.le_of_dvd (by omega) (Int.dvd_of_emod_eq_zero e2)
    have cd : CDivW (w0.length : Int) z := ⟨by omega, by
      have h1 : z.natAbs ≤ 50000 := by omega
      have h2 : z.natAbs.log2 ≤ (50000 : Nat).log2 := by
        by_cases h0 : z.natAbs = 0
        · rw [h0]; decide
        · exact (Nat.le_log2 (by decide)).mpr (Nat.le_trans (Nat.log2_self_le h0) h1)
      exact Nat.lt_of_le_of_lt h2 (by decide)⟩
    have cm1 : CMul p z := .inr ⟨by omega, by omega⟩
    have cm2 : CMul q z := .inr ⟨by omega, by omega⟩
    have hp1 : (cutG w0 none (some ((w0.length : Int) / z))).length * z.toNat ≤ 100000 := by
      have hq : 0 ≤ (w0.length : Int) / z := Int.ediv_nonneg (by omega) (by omega)
      obtain ⟨n, hn⟩ : ∃ n : Nat, (w0.length : Int) / z = n := ⟨((w0.length : Int) / z).toNat, by omega⟩
      rw [hn, cutG_take, List.length_take]
      have h1 : (n : Int) * z ≤ w0.length := by rw [← hn]; exact Int.ediv_mul_le _ (by omega)
      have h2 : n * z.toNat ≤ w0.length := by
        have : ((n * z.toNat : Nat) : Int) ≤ w0.length := by
          rw [Int.natCast_mul, Int.toNat_of_nonneg (by omega)]
          exact h1
        omega
      exact Nat.le_trans (Nat.mul_le_mul_right _ (Nat.min_le_left _ _)) (by omega)
    have hz1 : 1 ≤ z := by omega
    have hz2 : z ≤ 100000 := by omega
    walk_at "set"
    walk_at "ret"
    unfold aRoot
    rw [if_neg (b_ff e)]
    exact if_opt
end
end Kn

set_option Elab.async false
set_option linter.all false
set_option maxRecDepth 100000
set_option maxHeartbeats 4000000
/-! Steps as data and as typed things. -/
namespace Kn
open PySem PySem.Spec PyProof.Rows L2
inductive Kd where
  | out | turn | join | split | cut | glue | undo | back | opn | root
  deriving DecidableEq
def Kd.name : Kd → Str
  | .out => "out" | .turn => "turn" | .join => "join" | .split => "split" | .cut => "cut" | .glue => "glue" | .undo => "undo" | .back => "back" | .opn => "open" | .root => "root"
def Kd.sz : Kd → Nat
  | .out => 2 | .turn => 2 | .join => 2 | .split => 4 | .cut => 3 | .glue => 2 | .undo => 3 | .back => 3 | .opn => 3 | .root => 3
def Kd.pair : Kd → Bool
  | .join => true | .glue => true | .back => true | _ => false
def Kd.wide (k : Kd) : Nat := if k.pair = true then 2 else 1
def kds : List Kd := [.out, .turn, .join, .split, .cut, .glue, .undo, .back, .opn, .root]
theorem kds_all (k : Kd) : k ∈ kds := by cases k <;> decide
def kOf (z : Str) : Option Kd := kds.find? fun k => k.name == z
def names12 : List Str := ["out", "turn", "join", "split", "cut", "glue", "undo", "back", "open", "root", "Out", ""]
theorem kOf_name (k : Kd) : kOf k.name = some k := by cases k <;> decide +kernel
theorem kOf_some {z : Str} {k : Kd} (h : kOf z = some k) : z = k.name := by
  have := List.find?_some h
  exact (eq_of_beq this).symm
theorem kOf_Out : kOf "Out" = none := by decide +kernel
theorem kOf_e : kOf "" = none := by decide +kernel
structure PSt where
  k : Kd
  i : Int
  a : Int
  b : Int
def PSt.args (s : PSt) : List Int := match s.k.sz with
  | 2 => [s.i]
  | 3 => [s.i, s.a]
  | _ => [s.i, s.a, s.b]
def PSt.d (s : PSt) : PyData := .tuple (.str s.k.name :: s.args.map PyData.int)
def isI (d : PyData) : Bool := isInt d && !isBool d
def asI : Option PyData → Int
  | some (.int i) => i
  | _ => 0
theorem isI_int {d : PyData} (h : isI d = true) : ∃ i, d = .int i := by
  cases d <;> first | exact ⟨_, rfl⟩ | cases h
def parse : PyData → Option PSt
  | .tuple (.str z :: as) => (kOf z).bind fun k => if (as.length + 1 == k.sz && as.all isI) = true then some ⟨k, asI as[0]?, asI as[1]?, asI as[2]?⟩ else none
  | _ => none
theorem parse_some {d : PyData} {s : PSt} (h : parse d = some s) : d = s.d := by
  unfold parse at h
  split at h
  · next z as =>
    cases q : kOf z with
    | none =>
      rw [q] at h
      cases h
    | some k =>
      rw [q] at h
      have e := kOf_some q
      subst e
      dsimp only [Option.bind] at h
      split at h
      · next hc =>
        cases h
        rw [Bool.and_eq_true] at hc
        have hl := eq_of_beq hc.1
        have ha := hc.2
        match as, hl, ha with
        | [], hl, _ => cases k <;> cases hl
        | [x], hl, ha =>
          obtain ⟨i, rfl⟩ := isI_int (List.all_eq_true.mp ha x (by simp))
          cases k <;> first | rfl | cases hl
        | [x, y], hl, ha =>
          obtain ⟨i, rfl⟩ := isI_int (List.all_eq_true.mp ha x (by simp))
          obtain ⟨j, rfl⟩ := isI_int (List.all_eq_true.mp ha y (by simp))
          cases k <;> first | rfl | cases hl
        | [x, y, z], hl, ha =>
          obtain ⟨i, rfl⟩ := isI_int (List.all_eq_true.mp ha x (by simp))
          obtain ⟨j, rfl⟩ := isI_int (List.all_eq_true.mp ha y (by simp))
          obtain ⟨l, rfl⟩ := isI_int (List.all_eq_true.mp ha z (by simp))
          cases k <;> first | rfl | cases hl
        | x :: y :: z :: u :: v, hl, _ => cases k <;> simp [Kd.sz] at hl
      · cases h
  · cases h
theorem parse_d (s : PSt) : parse s.d = some ⟨s.k, s.i, if s.k.sz = 2 then 0 else s.a, if s.k.sz = 4 then s.b else 0⟩ := by
  obtain ⟨k, i, a, b⟩ := s
  cases k <;> (unfold parse PSt.d; dsimp only; rw [kOf_name]; rfl)
def act (s : PSt) (x y : Tr) : Option Row := match s.k with
  | .out => aOut x
  | .turn => some (aTurn x)
  | .join => aJoin x y
  | .split => some (aSplit x s.a s.b)
  | .cut => aCut x s.a
  | .glue => aGlue x y
  | .undo => aUndo x s.a
  | .back => aBack x y s.a
  | .opn => aOpen x s.a
  | .root => aRoot x s.a
/-- does the step stand in a row of n? -/
def PSt.fits (s : PSt) (n : Nat) : Bool := decide (0 ≤ s.i) && decide (s.i ≤ (n : Int) - s.k.wide)
def stpS (row : Row) (s : PSt) : Option Row := match atI row s.i, atI row (s.i + s.k.wide - 1) with
  | some x, some y => (act s x y).map fun f => cutG row none (some s.i) ++ f ++ cutG row (some (s.i + s.k.wide)) none
  | _, _ => none
def stp (row : Row) (d : PyData) : Option Row := match parse d with
  | none => none
  | some s => if s.fits row.length = true then stpS row s else none
def stps (row : Row) (l : List PyData) : Option Row := l.foldl (fun o d => o.bind fun r => stp r d) (some row)
/-! ### what a step may be -/
def flatI : PyData → Bool
  | .none => true
  | .bool _ => true
  | .int i => decide (i.natAbs < 2 ^ 200)
  | .str z => decide (z ∈ names12)
  | _ => false
def StOk : PyData → Prop
  | .none => True
  | .list xs => xs.length ≤ 20 ∧ xs.all flatI = true
  | .tuple xs => xs.length ≤ 20 ∧ xs.all flatI = true
  | _ => False
theorem flatI_flat {d : PyData} (h : flatI d = true) : flatP d = true := by cases d <;> first | rfl | cases h
/-! ### tests that stop -/
section
variable {K : PySem.W.Frag} {r : Res} {ds : Sl} {tt tu : TT} {te : TE} {a b : Bool}
theorem et_is (h : EvT K r tt ds (IsB a)) (e : a = b) : EvT K r tt ds (IsB b) := by subst e; exact h
theorem et_orT (h : EvT K r tt ds (IsB true)) : EvT K r (tOr tt tu) ds (IsB true) := et_or (b := true) h fun z => nomatch z
theorem et_orF (h : EvT K r tt ds (IsB false)) (h2 : EvT K r tu ds (IsB b)) : EvT K r (tOr tt tu) ds (IsB b) := et_is (et_or h fun _ => h2) rfl
theorem et_andF (h : EvT K r tt ds (IsB false)) : EvT K r (tAnd tt tu) ds (IsB false) := et_and (b := true) h fun z => nomatch z
theorem et_andT (h : EvT K r tt ds (IsB true)) (h2 : EvT K r tu ds (IsB b)) : EvT K r (tAnd tt tu) ds (IsB b) := et_is (et_and h fun _ => h2) rfl
theorem ev_is {w w' : Da} (h : Ev K r te ds (Is w')) (e : w' = w) : Ev K r te ds (Is w) := by subst e; exact h
end
section
variable {B : Bs} {o : Ow} {ds : Sl} {tt : TT} {t t2 u : TS} {D : Ends}
theorem go_ifT (h : EvT B.K B.r tt ds (IsB true)) (k : Go B o ds (tSeq t u) D) : Go B o ds (tSeq (tIfS tt t t2) u) D := go_if h (fun _ => k) fun z => nomatch z
theorem go_ifF (h : EvT B.K B.r tt ds (IsB false)) (k : Go B o ds (tSeq t2 u) D) : Go B o ds (tSeq (tIfS tt t t2) u) D := go_if h (fun z => nomatch z) fun _ => k
end
/-! ### SIZES, PAIRS -/
section
variable {K K' : PySem.W.Frag} {r : Res} {mg : Str → Option Value} {w w' : World}
theorem sz_at (T : Tx K mg w) (k : Kd) : ∃ u, PySem.W.nsIn K (He.ga K "SIZES") k.name = some (some u) ∧ RelV (.int k.sz) u := by
  have h := T.m
  unfold ex at h
  rw [Bool.and_eq_true] at h
  cases k
  · exact He.valsB_ok h.1 (List.mem_of_getElem? (i := 0) (show szs[0]? = _ from rfl))
  · exact He.valsB_ok h.1 (List.mem_of_getElem? (i := 1) (show szs[1]? = _ from rfl))
  · exact He.valsB_ok h.1 (List.mem_of_getElem? (i := 2) (show szs[2]? = _ from rfl))
  · exact He.valsB_ok h.1 (List.mem_of_getElem? (i := 3) (show szs[3]? = _ from rfl))
  · exact He.valsB_ok h.1 (List.mem_of_getElem? (i := 4) (show szs[4]? = _ from rfl))
  · exact He.valsB_ok h.1 (List.mem_of_getElem? (i := 5) (show szs[5]? = _ from rfl))
  · exact He.valsB_ok h.1 (List.mem_of_getElem? (i := 6) (show szs[6]? = _ from rfl))
  · exact He.valsB_ok h.1 (List.mem_of_getElem? (i := 7) (show szs[7]? = _ from rfl))
  · exact He.valsB_ok h.1 (List.mem_of_getElem? (i := 8) (show szs[8]? = _ from rfl))
  · exact He.valsB_ok h.1 (List.mem_of_getElem? (i := 9) (show szs[9]? = _ from rfl))
theorem sz_no (T : Tx K mg w) {z : Str} (hz : z ∈ names12) (h : kOf z = none) : PySem.W.nsIn K (He.ga K "SIZES") z = some none := by
  have h1 := T.m
  unfold ex at h1
  rw [Bool.and_eq_true, Bool.and_eq_true, Bool.and_eq_true] at h1
  have n : ∀ k : Kd, z ≠ k.name := fun k e => by rw [e, kOf_name] at h; cases h
  simp only [names12, List.mem_cons, List.not_mem_nil, or_false] at hz
  rcases hz with e | e | e | e | e | e | e | e | e | e | e | e
  · exact absurd e (n .out)
  · exact absurd e (n .turn)
  · exact absurd e (n .join)
  · exact absurd e (n .split)
  · exact absurd e (n .cut)
  · exact absurd e (n .glue)
  · exact absurd e (n .undo)
  · exact absurd e (n .back)
  · exact absurd e (n .opn)
  · exact absurd e (n .root)
  · rw [e]
    exact He.eqO_ok h1.2.1
  · rw [e]
    exact He.eqO_ok h1.2.2.1
theorem rv_notInSz (T : Tx K mg w) {z : Str} (hz : z ∈ names12) (hK : K' = K := by rfl) : RV K r (fun x y H Q => ∃ (z : Str) (r : Option Value), x = .str z ∧ y = .ref (He.ga K "SIZES") ∧ PySem.W.nsIn K' (He.ga K "SIZES") z = some r ∧ Q (.bl (!r.isSome)) H)
    (.d (.str z)) (.v (.ref (He.ga K "SIZES"))) (Is (.d (.bool (!(kOf z).isSome)))) := fun F H v w o f hv hw Q q => by
  subst hK
  cases hv
  obtain rfl : w = V.ref (He.ga K' "SIZES") := hw
  cases e : kOf z with
  | none => exact ⟨z, none, rfl, rfl, sz_no T hz e, q _ H _ rfl (Stp.refl o) (by rw [e]; exact Rp.bl _)⟩
  | some k =>
    obtain ⟨u, h1, _⟩ := sz_at T k
    rw [← kOf_some e] at h1
    exact ⟨z, _, rfl, rfl, h1, q _ H _ rfl (Stp.refl o) (by rw [e]; exact Rp.bl _)⟩
theorem rv_szIx (T : Tx K mg w) {k : Kd} (hK : K' = K := by rfl) (hw : w' = w := by rfl) : RV K r (rIxD K' w') (.v (.ref (He.ga K "SIZES"))) (.d (.str k.name)) (Is (.d (.int k.sz))) := fun F H v w o f hv hw Q q => by
  subst hK
  rename_i e1
  subst e1
  obtain rfl : v = V.ref (He.ga K' "SIZES") := hv
  cases hw
  obtain ⟨es, n, kd⟩ := T.c.tab 0
  obtain ⟨u, h1, h2⟩ := sz_at T k
  exact ⟨_, _, .int k.sz, rfl, rfl, ⟨es, n, u, kd.at_, kd.lit, h1, h2⟩, q _ H _ rfl (Stp.refl o) (Rp.int _)⟩
/-- PAIRS, a tuple of the module -/
theorem rv_inPairs (T : Tx K mg w) {k : Kd} (hK : K' = K := by rfl) : RV K r (rIn K' false) (.d (.str k.name)) (.v (.ref (He.ga K "PAIRS"))) (Is (.d (.bool k.pair))) := fun F H v w o f hv hw Q q => by
  subst hK
  cases hv
  obtain rfl : w = V.ref (He.ga K' "PAIRS") := hw
  have h1 := T.m
  unfold ex at h1
  rw [Bool.and_eq_true, Bool.and_eq_true, Bool.and_eq_true, Bool.and_eq_true] at h1
  have h2 := He.tupB_ok h1.2.2.2.1 H
  refine ⟨_, _, rfl, .inr h2, rfl, rfl, q _ H _ rfl (Stp.refl o) ?_⟩
  have e0 : ∀ k : Kd, inV (V.str k.name) [V.str "join", V.str "glue", V.str "back"] = k.pair := fun k => by
    cases k <;> decide +kernel
  have e : (inV (V.str k.name) ([.str "join", .str "glue", .str "back"].map (He.Dv.v K'))) = k.pair := e0 k
  show Rp K' _ (V.bl (if false = true then _ else inV _ _)) _
  rw [if_neg Bool.false_ne_true, e]
  exact Rp.bl _
theorem rc_allM {α : Type} {l : List α} {f : α → Bool} (hK : K' = K := by rfl) : RC K r (rAll K') [.d (.list (l.map fun a => .bool (f a)))] (Is (.d (.bool (l.all f)))) := by
  have z := rc_all (K := K) (r := r) (bs := l.map f) hK
  rw [List.map_map] at z
  rw [List.all_map] at z
  exact z
end
end Kn

set_option Elab.async false
set_option linter.all false
set_option maxRecDepth 100000
set_option maxHeartbeats 4000000
/-! is_step. -/
namespace Kn
open PySem PySem.Spec PyProof.Rows L2
local macro_rules | `(tactic| walk_at "sd") => `(tactic| first | trivial | assumption | walk_at "sz")
local macro_rules | `(tactic| walk_at "sz") => `(tactic| first | assumption | decide | omega | rfl | (simp only [List.length_append, List.length_map, List.length_cons, List.length_nil, List.length_reverse]; omega))
local macro_rules | `(tactic| walk_at "rv") => `(tactic| with_reducible first
  | exact rv_ix0 | exact rv_ix1 | exact rv_ix2 | exact rv_eqI | exact rv_neI | exact rv_eqE | exact rv_neE | exact rv_eqW | exact rv_neW | exact rv_eqS | exact rv_neS
  | exact rv_int0 | exact rv_bl0
  | exact rv_ixT0 | exact rv_ixT1
  | exact rv_ixRT (by assumption) | exact rv_ixRL (by assumption) | (apply rv_ixW; walk_at "sz"; assumption)
  | (refine rv_addW ?_; walk_at "sz")
  | (refine rv_catRT ?_; walk_at "sz") | (refine rv_catRL ?_; walk_at "sz")
  | (refine rv_intC ?_; assumption) | (apply rv_mulW; walk_at "sz"; walk_at "sz"; walk_at "sz")
  | exact rv_inW | exact rv_inSign | exact rv_isN | exact rv_notN | exact rv_notBl
  | exact rv_ixT (by with_unfolding_all rfl) | exact rv_ixL (by with_unfolding_all rfl)
  | exact rv_ixT (by assumption) | exact rv_ixL (by assumption)
  | (refine rv_catA ?_; walk_at "sz") | (refine rv_cat ?_; walk_at "sz"))
local macro_rules | `(tactic| walk_at "rs") => `(tactic| with_reducible first
  | exact rs_rT | exact rs_rL
  | (refine rs_w ?_ ?_; walk_at "sz"; (with_unfolding_all first | exact Nat.zero_le _ | exact HT.sIx_le _ _ (Nat.zero_le _) _ | assumption))
  | exact rs_tup | exact rs_list
  | (refine rs_str ?_; walk_at "sz"))
local macro_rules | `(tactic| walk_at "rc") => `(tactic| with_reducible first
  | exact rc_lenD3 | exact rc_lenRT | exact rc_lenRL | exact rc_lenT | exact rc_lenL | (refine rc_lenW ?_; walk_at "sz") | (refine rc_lenS ?_; walk_at "sz")
  | exact rc_isi (kit_int _) | exact rc_isi (kit_bool _) | exact rc_isi (kit_str _) | exact rc_isi (kit_tup _)
  | exact rc_max | exact rc_min | exact rc_int | exact rc_abs | exact rc_all | exact rc_tupL | exact rc_tupT | exact rc_list | exact rc_listT | (refine rc_listW ?_; walk_at "sz"))
local macro_rules | `(tactic| walk_at "rm") => `(tactic| first | (with_reducible apply rm_lowW; assumption; walk_at "sz") | (with_reducible apply rm_upW; assumption; walk_at "sz"))
local macro_rules | `(tactic| walk_at "ea") => `(tactic| first
  | with_reducible exact ea_nil
  | ((with_reducible apply ea_cons); walk_at "ev"; walk_at "ea"))
local macro_rules | `(tactic| walk_at "eo") => `(tactic| first
  | with_reducible exact eo_none
  | ((with_reducible apply eo_some); walk_at "ev"))
local macro_rules | `(tactic| walk_at "et") => `(tactic| first
  | ((with_reducible apply et_test); walk_at "ev")
  | ((with_reducible apply et_B); walk_at "ev")
  | ((with_reducible apply et_not); walk_at "et")
  | ((with_reducible apply et_and); walk_at "et"; intro _; walk_at "et")
  | ((with_reducible apply et_or); walk_at "et"; intro _; walk_at "et"))
local macro_rules | `(tactic| walk_at "ev") => `(tactic| first
  | with_reducible exact ev_int | with_reducible exact ev_str | with_reducible exact ev_bl | with_reducible exact ev_non | with_reducible exact ev_val
  | ((with_reducible apply ev_var); exact rfl)
  | ((with_reducible apply ev_op); walk_at "ev"; walk_at "ev"; walk_at "rv")
  | ((with_reducible apply ev_un); walk_at "ev"; exact ru_neg)
  | ((with_reducible apply ev_and); walk_at "ev"; intro _; walk_at "ev")
  | ((with_reducible apply ev_or); walk_at "ev"; intro _; walk_at "ev")
  | ((with_reducible apply ev_not); walk_at "ev")
  | ((with_reducible apply ev_sl); walk_at "ev"; walk_at "eo"; walk_at "eo"; walk_at "rs")
  | ((with_reducible apply ev_chain); walk_at "ev"; walk_at "ev"; walk_at "rv"; (intro _; walk_at "ev"); (intro _; walk_at "rv"))
  | walk_at "ec"
  | ((with_reducible apply ev_if); walk_at "et"; (intro _; walk_at "ev"); (intro _; walk_at "ev"))
  | ((with_reducible apply ev_m0); walk_at "ev"; walk_at "rm")
  | ((with_reducible apply ev_cb); walk_at "ea"; walk_at "rc")
  | ((with_reducible apply ev_tD); walk_at "ea")
  | with_reducible exact ev_rT0 | with_reducible exact ev_rL0
  | ((with_reducible apply ev_rT1); walk_at "ea") | ((with_reducible apply ev_rT2); walk_at "ea") | ((with_reducible apply ev_rT3); walk_at "ea")
  | ((with_reducible apply ev_rL1); walk_at "ea") | ((with_reducible apply ev_rL2); walk_at "ea") | ((with_reducible apply ev_rL3); walk_at "ea") | ((with_reducible apply ev_rL4); walk_at "ea")
  | ((with_reducible apply ev_revW); walk_at "ev"; walk_at "sz")
  | ((with_reducible apply ev_revL); walk_at "ev")
  | ((with_reducible apply ev_revT); walk_at "ev"))
local macro_rules | `(tactic| walk_at "ret") => `(tactic| (apply go_retE; assumption; exact rfl; walk_at "ev"))
local macro_rules | `(tactic| walk_at "if") => `(tactic| (apply go_if; walk_at "et"))
local macro_rules | `(tactic| walk_at "set") => `(tactic| (apply go_set; walk_at "ev"))
local macro_rules | `(tactic| walk_at "eg") => `(tactic| first | exact eg_name (by decide) | exact eg_tD (by decide) (by decide) (by decide))
local macro_rules | `(tactic| walk_at "ec") => `(tactic| first | ((with_reducible apply ec_is_plain); walk_at "ea") | ((with_reducible apply ec_is_integer); walk_at "ea") | ((with_reducible apply ec_is_between); walk_at "ea"))
section
variable {P : Program} {w : World} {K : PySem.W.Frag} {mg : Str → Option Value} {base : Heap} {r : Res} {ds : Sl} {ta : TA}
def isStepB (d : PyData) (n : Nat) : Bool := match parse d with
  | none => false
  | some s => s.fits n
theorem cutP_tail (x : PyData) (xs : List PyData) : cutP (x :: xs) (some 1) none = xs := by
  have h := cutG_drop (x :: xs) 1
  exact h
theorem ea_one {r : Res} {te : TE} {w' : Da} (h : Ev K r te ds (Is w')) : EvA K r (tCons te tNil) ds (IsA [w']) := ea_cons h ea_nil
def sp_is_step (K : PySem.W.Frag) : Sp := spP K (fun a : PyData × Nat => [.d a.1, .d (.int (a.2 : Nat))]) (fun a => StOk a.1) fun a => .d (.bool (isStepB a.1 a.2))
-- slots: 0=value 1=count 2=number
theorem sc_is_step : FnScope ["value", "count", "number"] ["value", "count"] (defScope s_is_step) := C8.fnScope_by (by decide +kernel)
theorem c_is_step (T : Tx K mg w) : Cal P w K mg base 3 "is_step" ["value", "count"] (sp_is_step K) := by
  obtain ⟨es, nn, kdS⟩ : ∃ es n, KDict K w (He.ga K "SIZES") es n := T.c.tab 0
  refine calG T.e_is_step T.g_is_step sc_is_step (fun _ _ _ _ _ _ us hl => match us, hl with | [_, _], _ => rfl) (fun _ _ => rfl) fun f cdv A outer s H E hr => ?_
  refine ⟨_, (pss_cons (ps_if (PW.pt (pw_or (pt_not (pt_val (pe_callB call_isi (by rfl) T.f_isinstance (by decide +kernel) (pa_cons (pv 0) (pa_cons (pe_bltn (v := .ty "tuple") (by rfl) T.f_tuple (by decide +kernel) rfl) pa_nil))))) (pw_or (pt_cmpR op_eq (pe_callB call_len_seq (by rfl) T.f_len PySem.boot_len (pa_cons (pv 0) pa_nil)) pe_int (nomark _)) (pw_or (pt_not (pt_val (pe_callB call_isi (by rfl) T.f_isinstance (by decide +kernel) (pa_cons (pe_ix ix_tup (pv 0) pe_int (fun _ _ => rfl)) (pa_cons (pe_bltn (v := .ty "str") (by rfl) T.f_str (by decide +kernel) rfl) pa_nil))))) (pw_or1 (pt_cmpR (op_notIn_kd kdS) (pe_ix ix_tup (pv 0) pe_int (fun _ _ => rfl)) (pe_gc (v := .ref (He.ga K "SIZES")) (by rfl) ⟨_, T.g_SIZES, rfl⟩) (by rfl))))))) (pss_cons (ps_ret pe_bl)
    pss_nil) pss_nil)
    (pss_cons (ps_if (PW.pt (pw_or (pt_cmpR op_ne (pe_callB call_len_seq (by rfl) T.f_len PySem.boot_len (pa_cons (pv 0) pa_nil)) (pe_ix ix_kdict (pe_gc (v := .ref (He.ga K "SIZES")) (by rfl) ⟨_, T.g_SIZES, rfl⟩) (pe_ix ix_tup (pv 0) pe_int (fun _ _ => rfl)) (fun _ _ => rfl)) (nomark _)) (pw_or1 (pt_not (pt_val (pe_callB (cr_all rfl) (by rfl) T.f_all (by decide +kernel) (pa_cons (pe_lc (te := (tCall (sp_is_integer K) [] E0 (tCons (tVar 2) tNil))) (own := [("number", 2)]) (g := (gName 2)) (tt := tYes) rfl sc_is_step.nd (pi_tup (pe_slice sl_tupA (pv 0) (po_some pe_int) po_none)) (blkOk_by (own := [("number", 2)]) (N := ["value", "count", "number"]) (sc := defScope s_is_step) (by decide +kernel)) (fun _ _ _ _ _ => (pg_name (i := 2) sc_is_step.nd rfl (Or.inl rfl))) (fun _ _ _ _ _ => pts_nil) (fun _ _ _ _ _ => (pe_c (c_is_integer T) hr (by decide) (by rfl) (pa_cons (pv 2) pa_nil)))) pa_nil))))))) (pss_cons (ps_ret pe_bl)
    pss_nil) pss_nil)
    (pss_cons (ps_ret (pe_c (c_is_between T) hr (by decide) (by rfl) (pa_cons (pe_ix ix_tup (pv 0) pe_int (fun _ _ => rfl)) (pa_cons pe_int (pa_cons (pe_ifExp (pt_cmpR op_in_seq (pe_ix ix_tup (pv 0) pe_int (fun _ _ => rfl)) (pe_gc (v := .ref (He.ga K "PAIRS")) (by rfl) ⟨_, T.g_PAIRS, rfl⟩) (by rfl)) (pe_op op_sub (pv 1) pe_int) (pe_op op_sub (pv 1) pe_int)) pa_nil)))))
    pss_nil))), ?_⟩
  intro a r F0 H0 D hp R
  dsimp only [nox_K]
  obtain ⟨d, n⟩ := a
  dsimp only at hp ⊢
  cases d with
  | none =>
    refine go_ifT (et_orT ?_) ?_
    · apply et_is; walk_at "et"; rfl
    · walk_at "ret"
      rfl
  | bool b => exact False.elim hp
  | int i => exact False.elim hp
  | str i => exact False.elim hp
  | dict i => exact False.elim hp
  | list xs =>
    refine go_ifT (et_orT ?_) ?_
    · apply et_is; walk_at "et"; rfl
    · walk_at "ret"
      rfl
  | tuple xs =>
    cases xs with
    | nil =>
      refine go_ifT (et_orF ?_ (et_orT ?_)) ?_
      · apply et_is; walk_at "et"; rfl
      · apply et_is; walk_at "et"; rfl
      · walk_at "ret"
        rfl
    | cons x as =>
      have hn : ((((x :: as).length : Nat) : Int) == 0) = false := by
        apply beq_false_of_ne
        rw [List.length_cons]
        omega
      by_cases hs : isStr x = true
      · cases x <;> try (cases hs)
        rename_i z
        have hz : z ∈ names12 := by
          have h1 := hp.2
          rw [List.all_cons, Bool.and_eq_true] at h1
          exact of_decide_eq_true h1.1
        cases hk : kOf z with
        | none =>
          refine go_ifT (et_orF ?_ (et_orF ?_ (et_orF ?_ ?_))) ?_
          · apply et_is; walk_at "et"; rfl
          · apply et_is; walk_at "et"; exact hn
          · apply et_is; walk_at "et"; rfl
          · refine et_is (et_test (ev_op ?_ ?_ (rv_notInSz T hz))) ?_
            · walk_at "ev"
            · walk_at "ev"
            · rw [hk]; rfl
          · walk_at "ret"
            have hpar : parse (.tuple (.str z :: as)) = none := by
              show (kOf z).bind _ = none
              rw [hk]
              rfl
            unfold isStepB
            rw [hpar]
        | some k =>
          have ek := kOf_some hk
          subst ek
          refine go_ifF (et_orF ?_ (et_orF ?_ (et_orF ?_ ?_))) (go_skip ?_)
          · apply et_is; walk_at "et"; rfl
          · apply et_is; walk_at "et"; exact hn
          · apply et_is; walk_at "et"; rfl
          · refine et_is (et_test (ev_op ?_ ?_ (rv_notInSz T hz))) ?_
            · walk_at "ev"
            · walk_at "ev"
            · rw [hk]; rfl
          apply go_if (b := !(((((PyData.str k.name :: as).length : Nat) : Int) == (k.sz : Nat))) || !(as.all isI))
          · apply et_or
            · refine et_test (ev_op ?_ (ev_op ?_ ?_ (rv_szIx T)) rv_neI)
              · walk_at "ev"
              · walk_at "ev"
              · walk_at "ev"
            · intro _
              refine et_not (et_test (ev_cb (ea_one ?_) rc_allM))
              refine ev_lcmap (ds' := fun d => [some (.d (.tuple (.str k.name :: as))), some (.d (.int (n : Nat))), some (.d d)]) (fd := fun d => .bool (isI d)) as (gd := id) ?_ ?_ (fun c _ => eg_name (by decide)) fun c _ => ?_
              · rw [List.map_id]
                have h := ei_tup (K := K) (r := r) (ds := startD 3 [.d (.tuple (.str k.name :: as)), .d (.int (n : Nat))]) (xs := cutP (.str k.name :: as) (some 1) none) (te := tSl (rSlA K) (tVar 0) (tPart (tC (V.int 1))) tNoPart) (by walk_at "ev")
                rw [cutP_tail] at h
                exact h
              · have := hp.1
                rw [List.length_cons] at this
                omega
              · exact ec_is_integer (ea_one (ev_var rfl))
          · intro e
            walk_at "ret"
            have hpar : parse (.tuple (.str k.name :: as)) = if (as.length + 1 == k.sz && as.all isI) = true then some ⟨k, asI as[0]?, asI as[1]?, asI as[2]?⟩ else none := by
              show (kOf k.name).bind _ = _
              rw [hk]
              rfl
            unfold isStepB
            rw [hpar, if_neg]
            intro h
            rw [Bool.and_eq_true] at h
            rw [h.2, Bool.not_true, Bool.or_false, Bool.not_eq_true'] at e
            have h2 := eq_of_beq h.1
            rw [List.length_cons, h2, beq_self_eq_true] at e
            cases e
          · intro e
            apply go_skip
            rw [Bool.or_eq_false_iff, Bool.not_eq_false', Bool.not_eq_false'] at e
            have e1 : as.length + 1 = k.sz := by
              have := eq_of_beq e.1
              rw [List.length_cons] at this
              omega
            have hpar : parse (.tuple (.str k.name :: as)) = some ⟨k, asI as[0]?, asI as[1]?, asI as[2]?⟩ := by
              show (kOf k.name).bind _ = _
              rw [hk]
              dsimp only [Option.bind]
              rw [if_pos]
              rw [e1, beq_self_eq_true, e.2]
              rfl
            have hB : isStepB (.tuple (.str k.name :: as)) n = (PSt.mk k (asI as[0]?) (asI as[1]?) (asI as[2]?)).fits n := by
              unfold isStepB
              rw [hpar]
            cases as with
            | nil => cases k <;> cases e1
            | cons y as =>
              obtain ⟨i, rfl⟩ := isI_int (List.all_eq_true.mp e.2 y (by simp))
              refine go_retI (by assumption) (w := .d (.bool (decide (0 ≤ i) && decide (i ≤ if k.pair = true then (n : Int) - 2 else (n : Int) - 1)))) (ec_is_between (ea_cons ?_ (ea_cons ?_ (ea_one ?_)))) ?_
              · walk_at "ev"
              · walk_at "ev"
              · refine evn_if (et_test (ev_op ?_ ?_ (rv_inPairs T (k := k)))) (fun e => ?_) fun e => ?_
                · walk_at "ev"
                · walk_at "ev"
                · rw [if_pos e.symm]
                  walk_at "ev"
                · rw [if_neg (b_ff e.symm)]
                  walk_at "ev"
              · show _ = Da.d (.bool (isStepB _ n))
                rw [hB]
                unfold PSt.fits Kd.wide
                dsimp only
                cases k.pair <;> rfl
      · have hs' : isStr x = false := by
          cases q : isStr x
          · rfl
          · exact absurd q hs
        refine go_ifT (et_orF ?_ (et_orF ?_ (et_orT ?_))) ?_
        · apply et_is; walk_at "et"; rfl
        · apply et_is; walk_at "et"; exact hn
        · apply et_is; walk_at "et"; rw [hs']; rfl
        · walk_at "ret"
          cases x <;> first | rfl | cases hs'
end
end Kn

set_option Elab.async false
set_option linter.all false
set_option maxRecDepth 100000
set_option maxHeartbeats 4000000
/-! Dicts, calls by a table, unpacking of triples. -/
namespace Kn
open PySem PySem.Spec PyProof.Rows L2
section
variable {K K' : PySem.W.Frag} {r : Res} {ds : Sl} {P : Da → Prop} {ta tb tc te td ty tx : TE} {tt tu : TT} {t : Tr}
def strKV (l : List (Str × V)) : List (Key × V) := l.map fun q => (.inr q.1, q.2)
def strTr (l : List (Str × V)) : List (TE × TE) := l.map fun q => (tC (.str q.1), tC q.2)
theorem pairs_run (l : List (Str × V)) : ∀ (σ : L2.St) (H : Hp) (Q : List (V × V) → Hp → Prop), Q (l.map fun q => (.str q.1, q.2)) H → tPairs (strTr l) σ H Q := by
  induction l with
  | nil => exact fun σ H Q q => q
  | cons a l ih => exact fun σ H Q q => ih σ H _ q
theorem ev_disp (l : List (Str × V)) (hl : l.length ≤ 15) : Ev K r (tDisp (strTr l)) ds (Is (.o (.dK (mergeK [] (strKV l))))) := fun F σ H o f s Q q => by
  intro p np
  refine pairs_run l σ _ _ ⟨upd_same, strKV l, ?_, by unfold strKV; rw [List.length_map]; exact hl, ?_⟩
  · unfold strKV
    rw [List.map_map]
    rfl
  · have e : upd (upd H p (.dK [])) p (.dK (mergeK [] (strKV l))) = upd H p (.dK (mergeK [] (strKV l))) := by
      funext a
      by_cases h : a = p
      · rw [h, upd_same, upd_same]
      · rw [upd_ne h, upd_ne h, upd_ne h]
    rw [e]
    exact q _ _ _ rfl (Stp.new o np) ⟨p, rfl, hide_at (new_out o f np) upd_same⟩
theorem ev_dget {m : List (Key × V)} {z : Str} {v : V} {wv : Da} (hd : Ev K r td ds (Is (.o (.dK m)))) (hy : Ev K r ty ds (Is (.d (.str z)))) (hv : valV m (.inr z) = some v) (hw : ∀ H, RpX K H v wv) : Ev K r (tDGet td ty) ds (Is wv) := fun F σ H o f s Q q => by
  refine hd F σ H o f s _ fun x H1 _ e1 s1 r1 => ?_
  subst e1
  obtain ⟨a, rfl, h1⟩ := r1
  refine hy F σ H1 s1.on (s1.fok f) (s.same s1.same) _ fun y H2 _ e2 s2 r2 => ?_
  subst e2
  cases r2
  have h2 := (hide_of (s2.same _ _ h1)).2
  exact ⟨a, v, rfl, .inl ⟨m, .inr z, .inl h2, rfl, hv.symm⟩, q v H2 _ rfl (s1.trans s2) (hw _)⟩
theorem ev_dget2 {m : List (Key × V)} {z : Str} {d : V} {wv : Da} (hd : Ev K r td ds (Is (.o (.dK m)))) (hy : Ev K r ty ds (Is (.d (.str z)))) (hx : Ev K r tx ds (Is (.v d))) (hw : ∀ H, RpX K H ((valV m (.inr z)).getD d) wv) : Ev K r (tDGet2 td ty tx) ds (Is wv) := fun F σ H o f s Q q => by
  refine hd F σ H o f s _ fun x H1 _ e1 s1 r1 => ?_
  subst e1
  obtain ⟨a, rfl, h1⟩ := r1
  have h1' := (hide_of h1).2
  refine ⟨a, rfl, .inl ⟨m, .inl h1'⟩, ?_⟩
  refine hy F σ H1 s1.on (s1.fok f) (s.same s1.same) _ fun y H2 _ e2 s2 r2 => ?_
  subst e2
  cases r2
  have s12 := s1.trans s2
  refine hx F σ H2 s2.on (s12.fok f) (s.same s12.same) _ fun u H3 _ e3 s3 r3 => ?_
  subst e3
  obtain rfl : u = d := r3
  have h2 := (hide_of (s3.same _ _ (s2.same _ _ h1))).2
  exact ⟨valV m (.inr z), .inl ⟨m, .inr z, .inl h2, rfl, rfl⟩, q _ H3 _ rfl (s12.trans s3) (hw _)⟩
theorem ev_v {i : Int} (h : Ev K r te ds (Is (.d (.int i)))) : Ev K r te ds (Is (.v (.int i))) := fun F σ H o f s Q q => by
  refine h F σ H o f s Q fun x H1 _ e1 s1 r1 => ?_
  subst e1
  cases r1
  exact q _ H1 _ rfl s1 rfl
/-! ### by a table -/
theorem heldOf {P : Program} {w : World} {mg : Str → Option Value} {base : Heap} {k j : Nat} {x : Str} {ps : List Str} {sp : Sp} {g : Addr} (c : Cal P w K mg base k x ps sp) (hg : mg x = some (.ref g)) (hj : k ≤ j) : HeldAt P w K mg base j g sp := by
  obtain ⟨f, fd, F, hm, kp, b⟩ := c.ex
  rw [hg] at hm
  cases hm
  exact ⟨fd, ps, F.mono hj, kp, b⟩
theorem ev_callX {α : Type} {tf : TE} {Sx : Addr → Sp → Prop} {t : TA} {ar : α → List Da} {pre : α → Prop} {res : α → Da} {f0 : Addr} (a : α) (hf : Ev K r tf ds (Is (.v (.ref f0)))) (hS : Sx f0 (spP K ar pre res)) (ha : EvA K r t ds (IsA (ar a))) (p : pre a) : Ev K r (tCallX tf Sx t) ds (Is (res a)) := fun F σ H o f s Q q => by
  refine hf F σ H o f s _ fun x H1 _ e1 s1 r1 => ?_
  subst e1
  obtain rfl : x = V.ref f0 := r1
  refine ⟨f0, _, rfl, hS, ?_⟩
  refine ha F σ H1 s1.on (s1.fok f) (s.same s1.same) _ fun vs H2 ws pw s2 rx => ?_
  subst pw
  exact ⟨a, F, r, s2.on, s2.fok (s1.fok f), rx, p, fun v H3 w pw2 s3 r3 => q v H3 w pw2 ((s1.trans s2).trans s3) r3⟩
end
end Kn

set_option Elab.async false
set_option linter.all false
set_option maxRecDepth 100000
set_option maxHeartbeats 4000000
/-! Blocks; one step on a row. -/
namespace Kn
open PySem PySem.Spec PyProof.Rows L2
local macro_rules | `(tactic| walk_at "sd") => `(tactic| first | trivial | assumption | walk_at "sz")
local macro_rules | `(tactic| walk_at "sz") => `(tactic| first | assumption | decide | omega | rfl | (simp only [List.length_append, List.length_map, List.length_cons, List.length_nil, List.length_reverse]; omega))
local macro_rules | `(tactic| walk_at "rv") => `(tactic| with_reducible first
  | exact rv_ix0 | exact rv_ix1 | exact rv_ix2 | exact rv_eqI | exact rv_neI | exact rv_eqE | exact rv_neE | exact rv_eqW | exact rv_neW | exact rv_eqS | exact rv_neS
  | exact rv_int0 | exact rv_bl0
  | exact rv_ixT0 | exact rv_ixT1
  | exact rv_ixRT (by assumption) | exact rv_ixRL (by assumption) | (apply rv_ixW; walk_at "sz"; assumption)
  | (refine rv_addW ?_; walk_at "sz")
  | (refine rv_catRT ?_; walk_at "sz") | (refine rv_catRL ?_; walk_at "sz")
  | (refine rv_intC ?_; assumption) | (apply rv_mulW; walk_at "sz"; walk_at "sz"; walk_at "sz")
  | exact rv_inW | exact rv_inSign | exact rv_isN | exact rv_notN | exact rv_notBl
  | exact rv_ixT (by with_unfolding_all rfl) | exact rv_ixL (by with_unfolding_all rfl)
  | exact rv_ixT (by assumption) | exact rv_ixL (by assumption)
  | (refine rv_catA ?_; walk_at "sz") | (refine rv_cat ?_; walk_at "sz"))
local macro_rules | `(tactic| walk_at "rs") => `(tactic| with_reducible first
  | exact rs_rT | exact rs_rL
  | (refine rs_w ?_ ?_; walk_at "sz"; (with_unfolding_all first | exact Nat.zero_le _ | exact HT.sIx_le _ _ (Nat.zero_le _) _ | assumption))
  | exact rs_tup | exact rs_list
  | (refine rs_str ?_; walk_at "sz"))
local macro_rules | `(tactic| walk_at "rc") => `(tactic| with_reducible first
  | exact rc_lenD3 | exact rc_lenRT | exact rc_lenRL | exact rc_lenT | exact rc_lenL | (refine rc_lenW ?_; walk_at "sz") | (refine rc_lenS ?_; walk_at "sz")
  | exact rc_isi (kit_int _) | exact rc_isi (kit_bool _) | exact rc_isi (kit_str _) | exact rc_isi (kit_tup _)
  | exact rc_max | exact rc_min | exact rc_int | exact rc_abs | exact rc_all | exact rc_tupL | exact rc_tupT | exact rc_list | exact rc_listT | (refine rc_listW ?_; walk_at "sz"))
local macro_rules | `(tactic| walk_at "rm") => `(tactic| first | (with_reducible apply rm_lowW; assumption; walk_at "sz") | (with_reducible apply rm_upW; assumption; walk_at "sz"))
local macro_rules | `(tactic| walk_at "ea") => `(tactic| first
  | with_reducible exact ea_nil
  | ((with_reducible apply ea_cons); walk_at "ev"; walk_at "ea"))
local macro_rules | `(tactic| walk_at "eo") => `(tactic| first
  | with_reducible exact eo_none
  | ((with_reducible apply eo_some); walk_at "ev"))
local macro_rules | `(tactic| walk_at "et") => `(tactic| first
  | ((with_reducible apply et_test); walk_at "ev")
  | ((with_reducible apply et_B); walk_at "ev")
  | ((with_reducible apply et_not); walk_at "et")
  | ((with_reducible apply et_and); walk_at "et"; intro _; walk_at "et")
  | ((with_reducible apply et_or); walk_at "et"; intro _; walk_at "et"))
local macro_rules | `(tactic| walk_at "ev") => `(tactic| first
  | with_reducible exact ev_int | with_reducible exact ev_str | with_reducible exact ev_bl | with_reducible exact ev_non | with_reducible exact ev_val
  | ((with_reducible apply ev_var); exact rfl)
  | ((with_reducible apply ev_op); walk_at "ev"; walk_at "ev"; walk_at "rv")
  | ((with_reducible apply ev_un); walk_at "ev"; exact ru_neg)
  | ((with_reducible apply ev_and); walk_at "ev"; intro _; walk_at "ev")
  | ((with_reducible apply ev_or); walk_at "ev"; intro _; walk_at "ev")
  | ((with_reducible apply ev_not); walk_at "ev")
  | ((with_reducible apply ev_sl); walk_at "ev"; walk_at "eo"; walk_at "eo"; walk_at "rs")
  | ((with_reducible apply ev_chain); walk_at "ev"; walk_at "ev"; walk_at "rv"; (intro _; walk_at "ev"); (intro _; walk_at "rv"))
  | walk_at "ec"
  | ((with_reducible apply ev_if); walk_at "et"; (intro _; walk_at "ev"); (intro _; walk_at "ev"))
  | ((with_reducible apply ev_m0); walk_at "ev"; walk_at "rm")
  | ((with_reducible apply ev_cb); walk_at "ea"; walk_at "rc")
  | ((with_reducible apply ev_tD); walk_at "ea")
  | with_reducible exact ev_rT0 | with_reducible exact ev_rL0
  | ((with_reducible apply ev_rT1); walk_at "ea") | ((with_reducible apply ev_rT2); walk_at "ea") | ((with_reducible apply ev_rT3); walk_at "ea")
  | ((with_reducible apply ev_rL1); walk_at "ea") | ((with_reducible apply ev_rL2); walk_at "ea") | ((with_reducible apply ev_rL3); walk_at "ea") | ((with_reducible apply ev_rL4); walk_at "ea")
  | ((with_reducible apply ev_revW); walk_at "ev"; walk_at "sz")
  | ((with_reducible apply ev_revL); walk_at "ev")
  | ((with_reducible apply ev_revT); walk_at "ev"))
local macro_rules | `(tactic| walk_at "ret") => `(tactic| (apply go_retE; assumption; exact rfl; walk_at "ev"))
local macro_rules | `(tactic| walk_at "if") => `(tactic| (apply go_if; walk_at "et"))
local macro_rules | `(tactic| walk_at "set") => `(tactic| (apply go_set; walk_at "ev"))
local macro_rules | `(tactic| walk_at "eg") => `(tactic| first | exact eg_name (by decide) | exact eg_tD (by decide) (by decide) (by decide))
local macro_rules | `(tactic| walk_at "ec") => `(tactic| first | ((with_reducible apply ec_is_plain); walk_at "ea") | ((with_reducible apply ec_is_integer); walk_at "ea") | ((with_reducible apply ec_is_between); walk_at "ea"))
section
variable {P : Program} {w : World} {K : PySem.W.Frag} {mg : Str → Option Value} {base : Heap} {r : Res} {ds : Sl} {ta : TA}
def sp_is_word (K : PySem.W.Frag) : Sp := spP K (fun w : Wd => [.d (.str (S w))]) (fun w => LW w ∧ w.length ≤ 100000) fun w => .d (.bool true)
-- slots: 0=value 1=sign
theorem sc_is_word : FnScope ["value", "sign"] ["value"] (defScope s_is_word) := C8.fnScope_by (by decide +kernel)
theorem c_is_word (T : Tx K mg w) : Cal P w K mg base 1 "is_word" ["value"] (sp_is_word K) := by
  refine calG T.e_is_word T.g_is_word sc_is_word (fun _ _ _ _ _ _ us hl => match us, hl with | [_], _ => rfl) (fun _ _ => rfl) fun f cdv A outer s H E hr => ?_
  refine ⟨_, (pss_cons (ps_ret (pe_and (pe_callB call_isi (by rfl) T.f_isinstance (by decide +kernel) (pa_cons (pv 0) (pa_cons (pe_bltn (v := .ty "str") (by rfl) T.f_str (by decide +kernel) rfl) pa_nil))) (pe_one (pe_callB (cr_all rfl) (by rfl) T.f_all (by decide +kernel) (pa_cons (pe_lc (te := (tOp _ (tVar 1) _)) (own := [("sign", 1)]) (g := (gName 1)) (tt := tYes) rfl sc_is_word.nd (pi_str (pv 0)) (blkOk_by (own := [("sign", 1)]) (N := ["value", "sign"]) (sc := defScope s_is_word) (by decide +kernel)) (fun _ _ _ _ _ => (pg_name (i := 1) sc_is_word.nd rfl (Or.inl rfl))) (fun _ _ _ _ _ => pts_nil) (fun _ _ _ _ _ => (pe_cmpR op_in_sign (pv 1) (pe_gc (by rfl) T.s_LETTERS) (by rfl)))) pa_nil)))))
    pss_nil), ?_⟩
  intro a r F0 H0 D hp R
  dsimp only [nox_K]
  obtain ⟨hw, hl⟩ := hp
  refine go_retE (by assumption) rfl (ev_and (a := true) ?_ fun _ => ev_cb (ea_cons (ev_lcmap (ds' := fun c => [some (.d (.str (S a))), some (.d (.str (S [c])))]) (fd := fun c => .bool (decide (c ∈ Lt))) a (ei_w (ev_var rfl)) hl (fun c _ => eg_name (by decide)) fun c hc => ?_) ea_nil) rc_allM) ?_
  rotate_left
  · refine ev_is (ev_op (ev_var rfl) ev_str rv_inSign) ?_
    show Da.d (.bool (decide (c ∈ (Str.ofString "abcdefABCDEF").cps.toList))) = _
    rw [letters_eq]
  · have e : a.all (fun c => decide (c ∈ Lt)) = true := List.all_eq_true.mpr fun c hc => decide_eq_true (hw c hc)
    rw [e]
    rfl
  · apply ev_is
    · walk_at "ev"
    · rfl
theorem ec_is_word {x : Wd} (h : EvA K r ta ds (IsA [.d (.str (S x))])) (h1 : LW x) (h2 : x.length ≤ 100000) : Ev K r (tCall (sp_is_word K) [] E0 ta) ds (Is (.d (.bool true))) := ev_call x h rfl ⟨h1, h2⟩
local macro_rules | `(tactic| walk_at "ec") => `(tactic| first | ((with_reducible apply ec_is_plain); walk_at "ea") | ((with_reducible apply ec_is_integer); walk_at "ea") | ((with_reducible apply ec_is_between); walk_at "ea") | ((with_reducible apply ec_is_word); walk_at "ea"; walk_at "sd"; walk_at "sd"))
structure Blk (t : Tr) : Prop where
  w : LW t.1
  l1 : 1 ≤ t.1.length
  l2 : t.1.length ≤ 12
  p1 : -9 ≤ t.2.1
  p2 : t.2.1 ≤ 9
  q1 : -99 ≤ t.2.2
  q2 : t.2.2 ≤ 99
def sp_is_block (K : PySem.W.Frag) : Sp := spP K (fun t : Tr => [.d (tD t)]) (fun t => Blk t) fun t => .d (.bool true)
-- slots: 0=value
theorem sc_is_block : FnScope ["value"] ["value"] (defScope s_is_block) := C8.fnScope_by (by decide +kernel)
theorem c_is_block (T : Tx K mg w) : Cal P w K mg base 3 "is_block" ["value"] (sp_is_block K) := by
  refine calG T.e_is_block T.g_is_block sc_is_block (fun _ _ _ _ _ _ us hl => match us, hl with | [_], _ => rfl) (fun _ _ => rfl) fun f cdv A outer s H E hr => ?_
  refine ⟨_, (pss_cons (ps_if (PW.pt (pw_or (pt_not (pt_val (pe_callB call_isi (by rfl) T.f_isinstance (by decide +kernel) (pa_cons (pv 0) (pa_cons (pe_bltn (v := .ty "tuple") (by rfl) T.f_tuple (by decide +kernel) rfl) pa_nil))))) (pw_or (pt_cmpR op_ne (pe_callB call_len_seq (by rfl) T.f_len PySem.boot_len (pa_cons (pv 0) pa_nil)) (pe_gc (by rfl) T.i_ITEMS) (nomark _)) (pw_or1 (pt_not (pt_val (pe_c (c_is_word T) hr (by decide) (by rfl) (pa_cons (pe_ix ix_tup (pv 0) pe_int (fun _ _ => rfl)) pa_nil)))))))) (pss_cons (ps_ret pe_bl)
    pss_nil) pss_nil)
    (pss_cons (ps_if (PW.pt (pw_or (pt_not (pt_chain op_le op_le pe_int (pe_callB call_len_str (by rfl) T.f_len PySem.boot_len (pa_cons (pe_ix ix_tup (pv 0) pe_int (fun _ _ => rfl)) pa_nil)) (pe_gc (by rfl) T.i_MOST_WORD))) (pw_or1 (pt_not (pt_val (pe_c (c_is_between T) hr (by decide) (by rfl) (pa_cons (pe_ix ix_tup (pv 0) pe_int (fun _ _ => rfl)) (pa_cons (pe_op op_sub pe_int (pe_gc (by rfl) T.i_MOST_TIMES)) (pa_cons (pe_gc (by rfl) T.i_MOST_TIMES) pa_nil))))))))) (pss_cons (ps_ret pe_bl)
    pss_nil) pss_nil)
    (pss_cons (ps_ret (pe_c (c_is_between T) hr (by decide) (by rfl) (pa_cons (pe_ix ix_tup (pv 0) pe_int (fun _ _ => rfl)) (pa_cons (pe_op op_sub pe_int (pe_gc (by rfl) T.i_MOST_MORE)) (pa_cons (pe_gc (by rfl) T.i_MOST_MORE) pa_nil)))))
    pss_nil))), ?_⟩
  intro a r F0 H0 D hp R
  dsimp only [nox_K]
  obtain ⟨hw, h1, h2, h3, h4, h5, h6⟩ := hp
  have hl : a.1.length ≤ 100000 := by omega
  refine go_ifF (et_orF ?_ (et_orF ?_ ?_)) (go_skip ?_)
  · apply et_is; walk_at "et"; rfl
  · apply et_is; walk_at "et"; rfl
  · apply et_is; walk_at "et"; rfl
  refine go_ifF (et_orF ?_ ?_) (go_skip ?_)
  · apply et_is
    · walk_at "et"
    · rw [decide_eq_true (by omega), decide_eq_true (by omega)]
      rfl
  · apply et_is
    · walk_at "et"
    · rw [decide_eq_true (by omega), decide_eq_true (by omega)]
      rfl
  · walk_at "ret"
    rw [decide_eq_true (by omega), decide_eq_true (by omega)]
    rfl
theorem ec_is_block {x : Tr} (h : EvA K r ta ds (IsA [.d (tD x)])) (h1 : Blk x) : Ev K r (tCall (sp_is_block K) [] E0 ta) ds (Is (.d (.bool true))) := ev_call x h rfl h1
def BlksOk (l : Row) : Prop := l.length ≤ 12 ∧ ∀ t ∈ l, Blk t
def sp_are_blocks (K : PySem.W.Frag) : Sp := spP K (fun l : Row => [.d (.tuple (tsD l))]) BlksOk fun t => .d (.bool true)
-- slots: 0=value 1=block
theorem sc_are_blocks : FnScope ["value", "block"] ["value"] (defScope s_are_blocks) := C8.fnScope_by (by decide +kernel)
theorem c_are_blocks (T : Tx K mg w) : Cal P w K mg base 4 "are_blocks" ["value"] (sp_are_blocks K) := by
  refine calG T.e_are_blocks T.g_are_blocks sc_are_blocks (fun _ _ _ _ _ _ us hl => match us, hl with | [_], _ => rfl) (fun _ _ => rfl) fun f cdv A outer s H E hr => ?_
  refine ⟨_, (pss_cons (ps_if (PW.pt (pw_or (pt_not (pt_val (pe_callB call_isi (by rfl) T.f_isinstance (by decide +kernel) (pa_cons (pv 0) (pa_cons (pe_bltn (v := .ty "tuple") (by rfl) T.f_tuple (by decide +kernel) rfl) pa_nil))))) (pw_or1 (pt_cmpR op_gt (pe_callB call_len_seq (by rfl) T.f_len PySem.boot_len (pa_cons (pv 0) pa_nil)) (pe_gc (by rfl) T.i_MOST_BLOCKS) (nomark _))))) (pss_cons (ps_ret pe_bl)
    pss_nil) pss_nil)
    (pss_cons (ps_ret (pe_callB (cr_all rfl) (by rfl) T.f_all (by decide +kernel) (pa_cons (pe_lc (te := (tCall (sp_is_block K) [] E0 (tCons (tVar 1) tNil))) (own := [("block", 1)]) (g := (gName 1)) (tt := tYes) rfl sc_are_blocks.nd (pi_tup (pv 0)) (blkOk_by (own := [("block", 1)]) (N := ["value", "block"]) (sc := defScope s_are_blocks) (by decide +kernel)) (fun _ _ _ _ _ => (pg_name (i := 1) sc_are_blocks.nd rfl (Or.inl rfl))) (fun _ _ _ _ _ => pts_nil) (fun _ _ _ _ _ => (pe_c (c_is_block T) hr (by decide) (by rfl) (pa_cons (pv 1) pa_nil)))) pa_nil)))
    pss_nil)), ?_⟩
  intro a r F0 H0 D hp R
  dsimp only [nox_K]
  obtain ⟨hl, hb⟩ := hp
  refine go_ifF (et_orF ?_ ?_) (go_skip ?_)
  · apply et_is; walk_at "et"; rfl
  · apply et_is
    · walk_at "et"
    · rw [decide_eq_false (by omega)]
  · refine go_retE (by assumption) rfl (ev_cb (ea_cons (ev_lcmap (ds' := fun c => [some (.d (.tuple (tsD a))), some (.d (tD c))]) (fd := fun c => .bool true) (gd := tD) a (ei_tup (ev_var rfl)) (by omega) (fun c _ => eg_name (by decide)) fun c hc => ec_is_block (ea_one (ev_var rfl)) (hb c hc)) ea_nil) rc_allM) ?_
    have e : a.all (fun _ => true) = true := List.all_eq_true.mpr fun c hc => rfl
    rw [e]
theorem ec_are_blocks {l : Row} (h : EvA K r ta ds (IsA [.d (.tuple (tsD l))])) (h1 : BlksOk l) : Ev K r (tCall (sp_are_blocks K) [] E0 ta) ds (Is (.d (.bool true))) := ev_call l h rfl h1
def invT (t : Tr) : Tr := (t.1, -t.2.1, -t.2.2)
def invR (l : Row) : Row := l.reverse.map invT
def sp_undone_row (K : PySem.W.Frag) : Sp := spP K (fun l : Row => [.d (.tuple (tsD l))]) (fun l => l.length ≤ 100000) fun l => .d (.tuple (tsD (invR l)))
-- slots: 0=row 1=word 2=times 3=over
theorem sc_undone_row : FnScope ["row", "word", "times", "over"] ["row"] (defScope s_undone_row) := C8.fnScope_by (by decide +kernel)
theorem c_undone_row (T : Tx K mg w) : Cal P w K mg base 1 "undone_row" ["row"] (sp_undone_row K) := by
  refine calG T.e_undone_row T.g_undone_row sc_undone_row (fun _ _ _ _ _ _ us hl => match us, hl with | [_], _ => rfl) (fun _ _ => rfl) fun f cdv A outer s H E hr => ?_
  refine ⟨_, (pss_cons (ps_ret (pe_callTy call_tuple_of (by rfl) T.f_tuple (by decide +kernel) (pa_cons (pe_lc (te := (tTup (tCons (tVar 1) (tCons (tOp _ _ (tVar 2)) (tCons (tOp _ _ (tVar 3)) tNil))))) (own := [("word", 1), ("times", 2), ("over", 3)]) (g := (gTup K 3 (gCons (gName 1) (gCons (gName 2) (gCons (gName 3) gNil))))) (tt := tYes) rfl sc_undone_row.nd (pi_tup (pe_revT (pv 0))) (blkOk_by (own := [("word", 1), ("times", 2), ("over", 3)]) (N := ["row", "word", "times", "over"]) (sc := defScope s_undone_row) (by decide +kernel)) (fun _ _ _ _ _ => (pg_tup rfl (pgs_cons (pg_name (i := 1) sc_undone_row.nd rfl (Or.inl rfl)) (pgs_cons (pg_name (i := 2) sc_undone_row.nd rfl (Or.inl rfl)) (pgs_cons (pg_name (i := 3) sc_undone_row.nd rfl (Or.inl rfl)) pgs_nil))))) (fun _ _ _ _ _ => pts_nil) (fun _ _ _ _ _ => (pe_tup (pa_cons (pv 1) (pa_cons (pe_op op_sub pe_int (pv 2)) (pa_cons (pe_op op_sub pe_int (pv 3)) pa_nil)))))) pa_nil)))
    pss_nil), ?_⟩
  intro a r F0 H0 D hp R
  dsimp only [nox_K]
  have hr0 : (tsD a).reverse = a.reverse.map tD := by unfold tsD; rw [List.map_reverse]
  refine go_retE (by assumption) rfl (ev_cb (ea_cons (ev_lcmap (ds' := fun c => [some (.d (.tuple (tsD a))), some (.d (.str (S c.1))), some (.d (.int c.2.1)), some (.d (.int c.2.2))]) (fd := fun c => tD (invT c)) (gd := tD) a.reverse ?_ (by rw [List.length_reverse]; exact hp) (fun c _ => ?_) fun c hc => ?_) ea_nil) rc_tupL) ?_
  rotate_left
  · walk_at "eg"
  · apply ev_is
    · walk_at "ev"
    · unfold invT
      rw [Int.zero_sub, Int.zero_sub]
  · unfold invR tsD
    rw [List.map_map]
    rfl
  · rw [← hr0]
    exact ei_tup (ev_revT (ev_var rfl))
theorem ec_undone_row {l : Row} (h : EvA K r ta ds (IsA [.d (.tuple (tsD l))])) (h1 : l.length ≤ 100000) : Ev K r (tCall (sp_undone_row K) [] E0 ta) ds (Is (.d (.tuple (tsD (invR l))))) := ev_call l h rfl h1
theorem ec_left_out {x : Tr} (h : EvA K r ta ds (IsA [.d (tD x)])) : Ev K r (tCall (sp_left_out K) [] E0 ta) ds (Is (.d (optT (aOut x)))) := ev_call x h rfl trivial
theorem ec_turned {x : Tr} (h : EvA K r ta ds (IsA [.d (tD x)])) (h1 : okW x) : Ev K r (tCall (sp_turned K) [] E0 ta) ds (Is (.d (.tuple (tsD (aTurn x))))) := ev_call x h rfl h1
theorem ec_joined {x y : Tr} (h : EvA K r ta ds (IsA [.d (tD x), .d (tD y)])) : Ev K r (tCall (sp_joined K) [] E0 ta) ds (Is (.d (optT (aJoin x y)))) := ev_call (x, y) h rfl trivial
theorem ec_glued {x y : Tr} (h : EvA K r ta ds (IsA [.d (tD x), .d (tD y)])) (h1 : okW x) (h2 : okW y) : Ev K r (tCall (sp_glued K) [] E0 ta) ds (Is (.d (optT (aGlue x y)))) := ev_call (x, y) h rfl ⟨h1, h2⟩
theorem ec_passed {x y : Tr} {z : Int} (h : EvA K r ta ds (IsA [.d (tD x), .d (tD y), .d (.int z)])) (h1 : okW x) (h2 : okW y) : Ev K r (tCall (sp_passed K) [] E0 ta) ds (Is (.d (optT (aBack x y z)))) := ev_call (x, y, z) h rfl ⟨h1, h2⟩
theorem ec_parted {x : Tr} {y z : Int} (h : EvA K r ta ds (IsA [.d (tD x), .d (.int y), .d (.int z)])) : Ev K r (tCall (sp_parted K) [] E0 ta) ds (Is (.d (.tuple (tsD (aSplit x y z))))) := ev_call (x, y, z) h rfl trivial
def SxR (K : PySem.W.Frag) (f : Addr) (sp : Sp) : Prop := (f = He.ga K "cut_at" ∧ sp = sp_cut_at K) ∨ (f = He.ga K "unpaired" ∧ sp = sp_unpaired K) ∨ (f = He.ga K "opened" ∧ sp = sp_opened K) ∨ (f = He.ga K "rooted" ∧ sp = sp_rooted K)
def repl (row : Row) (s : PSt) : Option Row := match atI row s.i, atI row (s.i + s.k.wide - 1) with
  | some x, some y => act s x y
  | _, _ => none
def RowOk (l : Row) : Prop := l.length ≤ 40000 ∧ ∀ t ∈ l, okW t
def tabR (K : PySem.W.Frag) : List (Str × V) := [("cut", .ref (He.ga K "cut_at")), ("undo", .ref (He.ga K "unpaired")), ("open", .ref (He.ga K "opened")), ("root", .ref (He.ga K "rooted"))]
theorem tab_cut : valV (mergeK [] (strKV (tabR K))) (.inr Kd.cut.name) = some (.ref (He.ga K "cut_at")) := by rfl
theorem tab_undo : valV (mergeK [] (strKV (tabR K))) (.inr Kd.undo.name) = some (.ref (He.ga K "unpaired")) := by rfl
theorem tab_opn : valV (mergeK [] (strKV (tabR K))) (.inr Kd.opn.name) = some (.ref (He.ga K "opened")) := by rfl
theorem tab_root : valV (mergeK [] (strKV (tabR K))) (.inr Kd.root.name) = some (.ref (He.ga K "rooted")) := by rfl
end
end Kn

set_option Elab.async false
set_option linter.all false
set_option maxRecDepth 100000
set_option maxHeartbeats 4000000
/-! One step on a row. -/
namespace Kn
open PySem PySem.Spec PyProof.Rows L2
local macro_rules | `(tactic| walk_at "sd") => `(tactic| first | trivial | assumption | walk_at "sz")
local macro_rules | `(tactic| walk_at "sz") => `(tactic| first | assumption | decide | omega | rfl | (simp only [List.length_append, List.length_map, List.length_cons, List.length_nil, List.length_reverse]; omega))
local macro_rules | `(tactic| walk_at "rv") => `(tactic| with_reducible first
  | exact rv_ix0 | exact rv_ix1 | exact rv_ix2 | exact rv_eqI | exact rv_neI | exact rv_eqE | exact rv_neE | exact rv_eqW | exact rv_neW | exact rv_eqS | exact rv_neS
  | exact rv_int0 | exact rv_bl0
  | exact rv_ixT0 | exact rv_ixT1
  | exact rv_ixRT (by assumption) | exact rv_ixRL (by assumption) | (apply rv_ixW; walk_at "sz"; assumption)
  | (refine rv_addW ?_; walk_at "sz")
  | (refine rv_catRT ?_; walk_at "sz") | (refine rv_catRL ?_; walk_at "sz")
  | (refine rv_intC ?_; assumption) | (apply rv_mulW; walk_at "sz"; walk_at "sz"; walk_at "sz")
  | exact rv_inW | exact rv_inSign | exact rv_isN | exact rv_notN | exact rv_notBl
  | exact rv_ixT (by with_unfolding_all rfl) | exact rv_ixL (by with_unfolding_all rfl)
  | exact rv_ixT (by assumption) | exact rv_ixL (by assumption)
  | (refine rv_catA ?_; walk_at "sz") | (refine rv_cat ?_; walk_at "sz"))
local macro_rules | `(tactic| walk_at "rs") => `(tactic| with_reducible first
  | exact rs_rT | exact rs_rL
  | (refine rs_w ?_ ?_; walk_at "sz"; (with_unfolding_all first | exact Nat.zero_le _ | exact HT.sIx_le _ _ (Nat.zero_le _) _ | assumption))
  | exact rs_tup | exact rs_list
  | (refine rs_str ?_; walk_at "sz"))
local macro_rules | `(tactic| walk_at "rc") => `(tactic| with_reducible first
  | exact rc_lenD3 | exact rc_lenRT | exact rc_lenRL | exact rc_lenT | exact rc_lenL | (refine rc_lenW ?_; walk_at "sz") | (refine rc_lenS ?_; walk_at "sz")
  | exact rc_isi (kit_int _) | exact rc_isi (kit_bool _) | exact rc_isi (kit_str _) | exact rc_isi (kit_tup _)
  | exact rc_max | exact rc_min | exact rc_int | exact rc_abs | exact rc_all | exact rc_tupL | exact rc_tupT | exact rc_list | exact rc_listT | (refine rc_listW ?_; walk_at "sz"))
local macro_rules | `(tactic| walk_at "rm") => `(tactic| first | (with_reducible apply rm_lowW; assumption; walk_at "sz") | (with_reducible apply rm_upW; assumption; walk_at "sz"))
local macro_rules | `(tactic| walk_at "ea") => `(tactic| first
  | with_reducible exact ea_nil
  | ((with_reducible apply ea_cons); walk_at "ev"; walk_at "ea"))
local macro_rules | `(tactic| walk_at "eo") => `(tactic| first
  | with_reducible exact eo_none
  | ((with_reducible apply eo_some); walk_at "ev"))
local macro_rules | `(tactic| walk_at "et") => `(tactic| first
  | ((with_reducible apply et_test); walk_at "ev")
  | ((with_reducible apply et_B); walk_at "ev")
  | ((with_reducible apply et_not); walk_at "et")
  | ((with_reducible apply et_and); walk_at "et"; intro _; walk_at "et")
  | ((with_reducible apply et_or); walk_at "et"; intro _; walk_at "et"))
local macro_rules | `(tactic| walk_at "ev") => `(tactic| first
  | with_reducible exact ev_int | with_reducible exact ev_str | with_reducible exact ev_bl | with_reducible exact ev_non | with_reducible exact ev_val
  | ((with_reducible apply ev_var); exact rfl)
  | ((with_reducible apply ev_op); walk_at "ev"; walk_at "ev"; walk_at "rv")
  | ((with_reducible apply ev_un); walk_at "ev"; exact ru_neg)
  | ((with_reducible apply ev_and); walk_at "ev"; intro _; walk_at "ev")
  | ((with_reducible apply ev_or); walk_at "ev"; intro _; walk_at "ev")
  | ((with_reducible apply ev_not); walk_at "ev")
  | ((with_reducible apply ev_sl); walk_at "ev"; walk_at "eo"; walk_at "eo"; walk_at "rs")
  | ((with_reducible apply ev_chain); walk_at "ev"; walk_at "ev"; walk_at "rv"; (intro _; walk_at "ev"); (intro _; walk_at "rv"))
  | walk_at "ec"
  | ((with_reducible apply ev_if); walk_at "et"; (intro _; walk_at "ev"); (intro _; walk_at "ev"))
  | ((with_reducible apply ev_m0); walk_at "ev"; walk_at "rm")
  | ((with_reducible apply ev_cb); walk_at "ea"; walk_at "rc")
  | ((with_reducible apply ev_tD); walk_at "ea")
  | with_reducible exact ev_rT0 | with_reducible exact ev_rL0
  | ((with_reducible apply ev_rT1); walk_at "ea") | ((with_reducible apply ev_rT2); walk_at "ea") | ((with_reducible apply ev_rT3); walk_at "ea")
  | ((with_reducible apply ev_rL1); walk_at "ea") | ((with_reducible apply ev_rL2); walk_at "ea") | ((with_reducible apply ev_rL3); walk_at "ea") | ((with_reducible apply ev_rL4); walk_at "ea")
  | ((with_reducible apply ev_revW); walk_at "ev"; walk_at "sz")
  | ((with_reducible apply ev_revL); walk_at "ev")
  | ((with_reducible apply ev_revT); walk_at "ev"))
local macro_rules | `(tactic| walk_at "ret") => `(tactic| (apply go_retE; assumption; exact rfl; walk_at "ev"))
local macro_rules | `(tactic| walk_at "if") => `(tactic| (apply go_if; walk_at "et"))
local macro_rules | `(tactic| walk_at "set") => `(tactic| (apply go_set; walk_at "ev"))
local macro_rules | `(tactic| walk_at "eg") => `(tactic| first | exact eg_name (by decide) | exact eg_tD (by decide) (by decide) (by decide))
local macro_rules | `(tactic| walk_at "ec") => `(tactic| first | ((with_reducible apply ec_is_plain); walk_at "ea") | ((with_reducible apply ec_left_out); walk_at "ea") | ((with_reducible apply ec_turned); walk_at "ea"; walk_at "sd") | ((with_reducible apply ec_joined); walk_at "ea") | ((with_reducible apply ec_glued); walk_at "ea"; walk_at "sd"; walk_at "sd") | ((with_reducible apply ec_passed); walk_at "ea"; walk_at "sd"; walk_at "sd") | ((with_reducible apply ec_parted); walk_at "ea"))
section
variable {P : Program} {w : World} {K : PySem.W.Frag} {mg : Str → Option Value} {base : Heap} {r : Res} {ds : Sl} {ta : TA}
theorem fits_in {s : PSt} {row : Row} (h : s.fits row.length = true) : 0 ≤ s.i ∧ s.i + s.k.wide ≤ row.length := by
  unfold PSt.fits at h
  rw [Bool.and_eq_true] at h
  have h1 := of_decide_eq_true h.1
  have h2 := of_decide_eq_true h.2
  omega
theorem fits_at {s : PSt} {row : Row} (h : s.fits row.length = true) : ∃ x y, atI row s.i = some x ∧ atI row (s.i + s.k.wide - 1) = some y ∧ x ∈ row ∧ y ∈ row ∧ repl row s = act s x y := by
  obtain ⟨h1, h2⟩ := fits_in h
  have hw : 1 ≤ s.k.wide := by unfold Kd.wide; split <;> omega
  obtain ⟨x, hx, _, mx⟩ := atI_ex (l := row) h1 (by omega)
  obtain ⟨y, hy, _, my⟩ := atI_ex (l := row) (i := s.i + s.k.wide - 1) (by omega) (by omega)
  refine ⟨x, y, hx, hy, mx, my, ?_⟩
  unfold repl
  rw [hx, hy]
def sp_replaced (K : PySem.W.Frag) : Sp := spP K (fun a : Row × PSt => [.d (.tuple (tsD a.1)), .d a.2.d]) (fun a => RowOk a.1 ∧ a.2.fits a.1.length = true) fun a => .d (optT (repl a.1 a.2))
-- slots: 0=row 1=step 2=item 3=more
theorem sc_replaced : FnScope ["row", "step", "item", "more"] ["row", "step"] (defScope s_replaced) := C8.fnScope_by (by decide +kernel)
theorem c_replaced (T : Tx K mg w) : Cal P w K mg base 3 "replaced" ["row", "step"] (sp_replaced K) := by
  have hX : ∀ f sp, SxR K f sp → HeldAt P w K mg base 2 f sp := by
    rintro f sp (⟨rfl, rfl⟩ | ⟨rfl, rfl⟩ | ⟨rfl, rfl⟩ | ⟨rfl, rfl⟩)
    · exact heldOf (c_cut_at T) T.g_cut_at (by decide)
    · exact heldOf (c_unpaired T) T.g_unpaired (by decide)
    · exact heldOf (c_opened T) T.g_opened (by decide)
    · exact heldOf (c_rooted T) T.g_rooted (by decide)
  refine calG T.e_replaced T.g_replaced sc_replaced (fun _ _ _ _ _ _ us hl => match us, hl with | [_, _], _ => rfl) (fun _ _ => rfl) fun f cdv A outer s H E hr => ?_
  refine ⟨_, (pss_cons (ps_set (i := 2) sc_replaced.nd rfl (Or.inl rfl) (pe_ix ix_tup (pv 0) (pe_ix ix_tup (pv 1) pe_int (fun _ _ => rfl)) (fun _ _ => rfl)))
    (pss_cons (ps_if (pt_cmpR op_in_seq (pe_ix ix_tup (pv 1) pe_int (fun _ _ => rfl)) (pe_gc (v := .ref (He.ga K "PAIRS")) (by rfl) ⟨_, T.g_PAIRS, rfl⟩) (by rfl)) (pss_cons (ps_set (i := 3) sc_replaced.nd rfl (Or.inl rfl) (pe_ix ix_tup (pv 0) (pe_op op_add (pe_ix ix_tup (pv 1) pe_int (fun _ _ => rfl)) pe_int) (fun _ _ => rfl)))
    (pss_cons (ps_if (pt_cmpR op_eq (pe_ix ix_tup (pv 1) pe_int (fun _ _ => rfl)) pe_str (nomark _)) (pss_cons (ps_ret (pe_c (c_passed T) hr (by decide) (by rfl) (pa_cons (pv 2) (pa_cons (pv 3) (pa_cons (pe_ix ix_tup (pv 1) pe_int (fun _ _ => rfl)) pa_nil)))))
    pss_nil) pss_nil)
    (pss_cons (ps_ret (pe_ifExp (pt_cmpR op_eq (pe_ix ix_tup (pv 1) pe_int (fun _ _ => rfl)) pe_str (nomark _)) (pe_c (c_joined T) hr (by decide) (by rfl) (pa_cons (pv 2) (pa_cons (pv 3) pa_nil))) (pe_c (c_glued T) hr (by decide) (by rfl) (pa_cons (pv 2) (pa_cons (pv 3) pa_nil)))))
    pss_nil))) pss_nil)
    (pss_cons (ps_if (pt_cmpR op_eq (pe_ix ix_tup (pv 1) pe_int (fun _ _ => rfl)) pe_str (nomark _)) (pss_cons (ps_ret (pe_c (c_parted T) hr (by decide) (by rfl) (pa_cons (pv 2) (pa_cons (pe_ix ix_tup (pv 1) pe_int (fun _ _ => rfl)) (pa_cons (pe_ix ix_tup (pv 1) pe_int (fun _ _ => rfl)) pa_nil)))))
    pss_nil) pss_nil)
    (pss_cons (ps_if (pt_cmpR op_eq (pe_callB call_len_seq (by rfl) T.f_len PySem.boot_len (pa_cons (pv 1) pa_nil)) pe_int (nomark _)) (pss_cons (ps_ret (pe_ifExp (pt_cmpR op_eq (pe_ix ix_tup (pv 1) pe_int (fun _ _ => rfl)) pe_str (nomark _)) (pe_c (c_left_out T) hr (by decide) (by rfl) (pa_cons (pv 2) pa_nil)) (pe_c (c_turned T) hr (by decide) (by rfl) (pa_cons (pv 2) pa_nil))))
    pss_nil) pss_nil)
    (pss_cons (ps_ret (pe_callX (pe_dget (hu_of hr) (pe_disp (pps_cons pe_str (pe_gc (v := .ref (He.ga K "cut_at")) (by rfl) ⟨_, T.g_cut_at, rfl⟩) (pps_cons pe_str (pe_gc (v := .ref (He.ga K "unpaired")) (by rfl) ⟨_, T.g_unpaired, rfl⟩) (pps_cons pe_str (pe_gc (v := .ref (He.ga K "opened")) (by rfl) ⟨_, T.g_opened, rfl⟩) (pps_cons pe_str (pe_gc (v := .ref (He.ga K "rooted")) (by rfl) ⟨_, T.g_rooted, rfl⟩) pps_nil)))) (by rfl) (by rfl) (fun z => by cases z) (by decide)) (pe_ix ix_tup (pv 1) pe_int (fun _ _ => rfl)) (fun _ _ => rfl)) hX hr (pa_cons (pv 2) (pa_cons (pe_ix ix_tup (pv 1) pe_int (fun _ _ => rfl)) pa_nil))))
    pss_nil))))), ?_⟩
  intro a r F0 H0 D hp R
  dsimp only [nox_K]
  obtain ⟨row, ⟨k, i, a, b⟩⟩ := a
  obtain ⟨⟨hl, hb⟩, hf⟩ := hp
  obtain ⟨x, y, hx, hy, mx, my, e⟩ := fits_at hf
  have okx := hb x mx
  have oky := hb y my
  dsimp only at e hx hy ⊢
  have set1 : ∀ (as : List PyData) (z : PyData), Ev K r (tOp (rIxT K) (tVar 0) (tOp (rIxT K) (tVar 1) (tC (V.int 1)))) (startD 4 [.d (.tuple (tsD row)), .d (.tuple (z :: .int i :: as))]) (Is (.d (tD x))) := fun as z => by walk_at "ev"
  cases k with
  | join =>
    rw [show (PSt.mk .join i a b).d = .tuple [.str Kd.join.name, .int i] from rfl]
    have hy' : atI row (i + 1) = some y := by rw [← hy]; exact congrArg (atI row) (show i + 1 = i + ((2 : Nat) : Int) - 1 by omega)
    apply go_set (set1 _ _)
    refine go_ifT (et_is (et_test (ev_op ?_ ?_ (rv_inPairs T (k := .join)))) rfl) ?_
    · walk_at "ev"
    · walk_at "ev"
    walk_at "set"
    refine go_ifF ?_ (go_skip ?_)
    · apply et_is; walk_at "et"; decide +kernel
    refine go_retE (by assumption) rfl (ev_if (a := true) (w1 := .d (optT (aJoin x y))) (w2 := .d (optT (aGlue x y))) ?_ (fun _ => ?_) fun z => nomatch z) ?_
    · apply et_is; walk_at "et"; decide +kernel
    · walk_at "ev"
    · rw [e]
      rfl
  | glue =>
    rw [show (PSt.mk .glue i a b).d = .tuple [.str Kd.glue.name, .int i] from rfl]
    have hy' : atI row (i + 1) = some y := by rw [← hy]; exact congrArg (atI row) (show i + 1 = i + ((2 : Nat) : Int) - 1 by omega)
    apply go_set (set1 _ _)
    refine go_ifT (et_is (et_test (ev_op ?_ ?_ (rv_inPairs T (k := .glue)))) rfl) ?_
    · walk_at "ev"
    · walk_at "ev"
    walk_at "set"
    refine go_ifF ?_ (go_skip ?_)
    · apply et_is; walk_at "et"; decide +kernel
    refine go_retE (by assumption) rfl (ev_if (a := false) (w1 := .d (optT (aJoin x y))) (w2 := .d (optT (aGlue x y))) ?_ (fun z => nomatch z) fun _ => ?_) ?_
    · apply et_is; walk_at "et"; decide +kernel
    · walk_at "ev"
    · rw [e]
      rfl
  | back =>
    rw [show (PSt.mk .back i a b).d = .tuple [.str Kd.back.name, .int i, .int a] from rfl]
    have hy' : atI row (i + 1) = some y := by rw [← hy]; exact congrArg (atI row) (show i + 1 = i + ((2 : Nat) : Int) - 1 by omega)
    apply go_set (set1 _ _)
    refine go_ifT (et_is (et_test (ev_op ?_ ?_ (rv_inPairs T (k := .back)))) rfl) ?_
    · walk_at "ev"
    · walk_at "ev"
    walk_at "set"
    refine go_ifT ?_ ?_
    · apply et_is; walk_at "et"; decide +kernel
    walk_at "ret"
    rw [e]
    rfl
  | out =>
    rw [show (PSt.mk .out i a b).d = .tuple [.str Kd.out.name, .int i] from rfl]
    apply go_set (set1 _ _)
    refine go_ifF (et_is (et_test (ev_op ?_ ?_ (rv_inPairs T (k := .out)))) rfl) (go_skip ?_)
    · walk_at "ev"
    · walk_at "ev"
    refine go_ifF ?_ (go_skip ?_)
    · apply et_is; walk_at "et"; decide +kernel
    refine go_ifT ?_ ?_
    · apply et_is; walk_at "et"; rfl
    refine go_retE (by assumption) rfl (ev_if (a := true) (w1 := .d (optT (aOut x))) (w2 := .d (.tuple (tsD (aTurn x)))) ?_ (fun _ => ?_) fun z => nomatch z) ?_
    · apply et_is; walk_at "et"; decide +kernel
    · walk_at "ev"
    · rw [e]
      rfl
  | turn =>
    rw [show (PSt.mk .turn i a b).d = .tuple [.str Kd.turn.name, .int i] from rfl]
    apply go_set (set1 _ _)
    refine go_ifF (et_is (et_test (ev_op ?_ ?_ (rv_inPairs T (k := .turn)))) rfl) (go_skip ?_)
    · walk_at "ev"
    · walk_at "ev"
    refine go_ifF ?_ (go_skip ?_)
    · apply et_is; walk_at "et"; decide +kernel
    refine go_ifT ?_ ?_
    · apply et_is; walk_at "et"; rfl
    refine go_retE (by assumption) rfl (ev_if (a := false) (w1 := .d (optT (aOut x))) (w2 := .d (.tuple (tsD (aTurn x)))) ?_ (fun z => nomatch z) fun _ => ?_) ?_
    · apply et_is; walk_at "et"; decide +kernel
    · walk_at "ev"
    · rw [e]
      rfl
  | split =>
    rw [show (PSt.mk .split i a b).d = .tuple [.str Kd.split.name, .int i, .int a, .int b] from rfl]
    apply go_set (set1 _ _)
    refine go_ifF (et_is (et_test (ev_op ?_ ?_ (rv_inPairs T (k := .split)))) rfl) (go_skip ?_)
    · walk_at "ev"
    · walk_at "ev"
    refine go_ifT ?_ ?_
    · apply et_is; walk_at "et"; decide +kernel
    walk_at "ret"
    rw [e]
    rfl
  | cut =>
    rw [show (PSt.mk .cut i a b).d = .tuple [.str Kd.cut.name, .int i, .int a] from rfl]
    apply go_set (set1 _ _)
    refine go_ifF (et_is (et_test (ev_op ?_ ?_ (rv_inPairs T (k := .cut)))) rfl) (go_skip ?_)
    · walk_at "ev"
    · walk_at "ev"
    refine go_ifF ?_ (go_skip ?_)
    · apply et_is; walk_at "et"; decide +kernel
    refine go_ifF ?_ (go_skip ?_)
    · apply et_is; walk_at "et"; rfl
    refine go_retE (by assumption) rfl (ev_callX (Sx := SxR K) (ar := fun t : Tr × Int => [.d (tD t.1), .d (.int t.2)]) (pre := fun t => okW t.1) (res := fun t => .d (optT (aCut t.1 t.2))) (x, a) (ev_dget (ev_disp (tabR K) (by simp [tabR])) (z := Kd.cut.name) ?_ tab_cut fun _ => rfl) (.inl ⟨rfl, rfl⟩) ?_ okx) ?_
    · walk_at "ev"
    · walk_at "ea"
    · rw [e]
      rfl
  | undo =>
    rw [show (PSt.mk .undo i a b).d = .tuple [.str Kd.undo.name, .int i, .int a] from rfl]
    apply go_set (set1 _ _)
    refine go_ifF (et_is (et_test (ev_op ?_ ?_ (rv_inPairs T (k := .undo)))) rfl) (go_skip ?_)
    · walk_at "ev"
    · walk_at "ev"
    refine go_ifF ?_ (go_skip ?_)
    · apply et_is; walk_at "et"; decide +kernel
    refine go_ifF ?_ (go_skip ?_)
    · apply et_is; walk_at "et"; rfl
    refine go_retE (by assumption) rfl (ev_callX (Sx := SxR K) (ar := fun t : Tr × Int => [.d (tD t.1), .d (.int t.2)]) (pre := fun t => okW t.1) (res := fun t => .d (optT (aUndo t.1 t.2))) (x, a) (ev_dget (ev_disp (tabR K) (by simp [tabR])) (z := Kd.undo.name) ?_ tab_undo fun _ => rfl) (.inr (.inl ⟨rfl, rfl⟩)) ?_ okx) ?_
    · walk_at "ev"
    · walk_at "ea"
    · rw [e]
      rfl
  | opn =>
    rw [show (PSt.mk .opn i a b).d = .tuple [.str Kd.opn.name, .int i, .int a] from rfl]
    apply go_set (set1 _ _)
    refine go_ifF (et_is (et_test (ev_op ?_ ?_ (rv_inPairs T (k := .opn)))) rfl) (go_skip ?_)
    · walk_at "ev"
    · walk_at "ev"
    refine go_ifF ?_ (go_skip ?_)
    · apply et_is; walk_at "et"; decide +kernel
    refine go_ifF ?_ (go_skip ?_)
    · apply et_is; walk_at "et"; rfl
    refine go_retE (by assumption) rfl (ev_callX (Sx := SxR K) (ar := fun t : Tr × Int => [.d (tD t.1), .d (.int t.2)]) (pre := fun t => okW t.1) (res := fun t => .d (optT (aOpen t.1 t.2))) (x, a) (ev_dget (ev_disp (tabR K) (by simp [tabR])) (z := Kd.opn.name) ?_ tab_opn fun _ => rfl) (.inr (.inr (.inl ⟨rfl, rfl⟩))) ?_ okx) ?_
    · walk_at "ev"
    · walk_at "ea"
    · rw [e]
      rfl
  | root =>
    rw [show (PSt.mk .root i a b).d = .tuple [.str Kd.root.name, .int i, .int a] from rfl]
    apply go_set (set1 _ _)
    refine go_ifF (et_is (et_test (ev_op ?_ ?_ (rv_inPairs T (k := .root)))) rfl) (go_skip ?_)
    · walk_at "ev"
    · walk_at "ev"
    refine go_ifF ?_ (go_skip ?_)
    · apply et_is; walk_at "et"; decide +kernel
    refine go_ifF ?_ (go_skip ?_)
    · apply et_is; walk_at "et"; rfl
    refine go_retE (by assumption) rfl (ev_callX (Sx := SxR K) (ar := fun t : Tr × Int => [.d (tD t.1), .d (.int t.2)]) (pre := fun t => okW t.1) (res := fun t => .d (optT (aRoot t.1 t.2))) (x, a) (ev_dget (ev_disp (tabR K) (by simp [tabR])) (z := Kd.root.name) ?_ tab_root fun _ => rfl) (.inr (.inr (.inr ⟨rfl, rfl⟩))) ?_ okx) ?_
    · walk_at "ev"
    · walk_at "ea"
    · rw [e]
      rfl
theorem ec_replaced {row : Row} {s : PSt} (h : EvA K r ta ds (IsA [.d (.tuple (tsD row)), .d s.d])) (h1 : RowOk row) (h2 : s.fits row.length = true) : Ev K r (tCall (sp_replaced K) [] E0 ta) ds (Is (.d (optT (repl row s)))) := ev_call (row, s) h rfl ⟨h1, h2⟩
end
end Kn

set_option Elab.async false
set_option linter.all false
set_option maxRecDepth 100000
set_option maxHeartbeats 4000000
/-! Sizes of rows under steps. -/
namespace Kn
open PySem PySem.Spec PyProof.Rows L2
def tot (l : Row) : Nat := (l.map fun t => t.1.length + 1).sum
theorem tot_app (a b : Row) : tot (a ++ b) = tot a + tot b := by unfold tot; rw [List.map_append, List.sum_append]
theorem tot_cons (a : Tr) (b : Row) : tot (a :: b) = a.1.length + 1 + tot b := by unfold tot; rw [List.map_cons, List.sum_cons]
theorem tot_nil : tot [] = 0 := rfl
theorem len_tot (l : Row) : l.length ≤ tot l := by
  induction l with
  | nil => exact Nat.le_refl _
  | cons a l ih => rw [tot_cons, List.length_cons]; omega
theorem mem_tot {l : Row} {t : Tr} (h : t ∈ l) : t.1.length + 1 ≤ tot l := by
  induction l with
  | nil => cases h
  | cons a l ih =>
    rw [tot_cons]
    rcases List.mem_cons.mp h with e | e
    · subst e; omega
    · have := ih e; omega
def RLW (l : Row) : Prop := ∀ t ∈ l, LW t.1
theorem RLW.app {a b : Row} (ha : RLW a) (hb : RLW b) : RLW (a ++ b) := fun t h => (List.mem_append.mp h).elim (ha t) (hb t)
theorem RLW.cut {a : Row} {lo hi : Option Int} (ha : RLW a) : RLW (cutG a lo hi) := fun t h => ha t (cutG_mem h)
theorem LW.app {a b : Wd} (ha : LW a) (hb : LW b) : LW (a ++ b) := fun t h => (List.mem_append.mp h).elim (ha t) (hb t)
theorem RLW.one {x : Tr} (h : LW x.1) : RLW [x] := fun t ht => by rw [List.mem_singleton.mp ht]; exact h
theorem RLW.two {x y : Tr} (h : LW x.1) (h2 : LW y.1) : RLW [x, y] := fun t ht => by
  rcases List.mem_cons.mp ht with e | e
  · rw [e]; exact h
  · rw [List.mem_singleton.mp e]; exact h2
theorem RLW.three {x y z : Tr} (h : LW x.1) (h2 : LW y.1) (h3 : LW z.1) : RLW [x, y, z] := fun t ht => by
  rcases List.mem_cons.mp ht with e | e
  · rw [e]; exact h
  · exact RLW.two h2 h3 t e
/-- the words' part of a row by ends -/
theorem cutG_len_take (w : Wd) (z : Int) (h : 0 ≤ z) : (cutG w none (some z)).length = min z.toNat w.length := by
  obtain ⟨n, rfl⟩ : ∃ n : Nat, z = n := ⟨z.toNat, by omega⟩
  rw [cutG_take, List.length_take, Int.toNat_natCast]
theorem cutG_len_drop (w : Wd) (z : Int) (h : 0 ≤ z) : (cutG w (some z) none).length = w.length - z.toNat := by
  obtain ⟨n, rfl⟩ : ∃ n : Nat, z = n := ⟨z.toNat, by omega⟩
  rw [cutG_drop, List.length_drop, Int.toNat_natCast]
theorem act_tot {s : PSt} {x y : Tr} {f : Row} (h : act s x y = some f) (hx : LW x.1) (hy : LW y.1) :
    RLW f ∧ (tot f ≤ x.1.length + 1 + (if s.k.pair = true then y.1.length + 1 else 0) + 2 ∨ s.k = .split ∧ tot f ≤ 2 * (x.1.length + 1)) := by
  obtain ⟨k, i, a, b⟩ := s
  obtain ⟨w, p, q⟩ := x
  obtain ⟨u, p2, q2⟩ := y
  unfold act at h
  cases k <;> dsimp only at h hx hy
  · unfold aOut at h
    split at h <;> cases h
    exact ⟨fun t z => (nomatch z), .inl (Nat.zero_le _)⟩
  · cases h
    refine ⟨RLW.one (und_lw hx), .inl ?_⟩
    unfold aTurn
    rw [tot_cons, tot_nil]
    dsimp only
    rw [und_length]
    omega
  · unfold aJoin at h
    split at h <;> cases h
    exact ⟨RLW.one hx, .inl (by rw [tot_cons, tot_nil]; dsimp only; omega)⟩
  · cases h
    exact ⟨RLW.two hx hx, .inr ⟨rfl, by unfold aSplit; rw [tot_cons, tot_cons, tot_nil]; dsimp only; omega⟩⟩
  · unfold aCut at h
    dsimp only at h
    split at h
    · cases h
    · next hc =>
      cases h
      refine ⟨RLW.two hx.cut hx.cut, .inl ?_⟩
      have hc' : (decide (0 < a) && decide (a < (w.length : Int))) = true := by
        cases q : (decide (0 < a) && decide (a < (w.length : Int)))
        · exact absurd (by rw [q]; simp) hc
        · rfl
      rw [Bool.and_eq_true] at hc'
      have h1 := of_decide_eq_true hc'.1
      have h2 := of_decide_eq_true hc'.2
      rw [tot_cons, tot_cons, tot_nil]
      dsimp only
      rw [cutG_len_take _ _ (by omega), cutG_len_drop _ _ (by omega)]
      omega
  · unfold aGlue at h
    split at h <;> cases h
    refine ⟨RLW.one (LW.app hx hy), .inl ?_⟩
    rw [tot_cons, tot_nil]
    dsimp only
    rw [List.length_append, if_pos (show Kd.glue.pair = true from rfl)]
    omega
  · unfold aUndo at h
    dsimp only at h
    split at h
    · cases h
    · next hc =>
      cases h
      refine ⟨RLW.one (LW.app hx.cut hx.cut), .inl ?_⟩
      have hc' : (decide (0 ≤ a) && decide (a < (w.length : Int) - 1)) = true := by
        cases q : (decide (0 ≤ a) && decide (a < (w.length : Int) - 1))
        · exact absurd (by rw [q]; simp) hc
        · rfl
      rw [Bool.and_eq_true] at hc'
      have h1 := of_decide_eq_true hc'.1
      have h2 := of_decide_eq_true hc'.2
      rw [tot_cons, tot_nil]
      dsimp only
      rw [List.length_append, cutG_len_take _ _ (by omega), cutG_len_drop _ _ (by omega)]
      omega
  · unfold aBack at h
    dsimp only at h
    split at h
    · cases h
    · split at h
      · cases h
      · next h1 h2 =>
        cases h
        refine ⟨RLW.two (LW.app hx hy.cut) hx, .inl ?_⟩
        have e1 : ((w.length : Int) == a) = true := by
          cases q : ((w.length : Int) == a)
          · exact absurd (by rw [q]; simp) h1
          · rfl
        have e1' := eq_of_beq e1
        have e3 : decide ((u.length : Int) < a) = false := by
          cases q : decide ((u.length : Int) < a)
          · rfl
          · exact absurd (by rw [q]; simp) h1
        have e3' := of_decide_eq_false e3
        rw [tot_cons, tot_cons, tot_nil]
        dsimp only
        rw [List.length_append, cutG_len_take _ _ (by omega), if_pos (show Kd.back.pair = true from rfl)]
        omega
  · unfold aOpen at h
    dsimp only at h
    split at h
    · cases h
    · next hc =>
      cases h
      refine ⟨RLW.three hx.cut hx.cut (und_lw hx.cut), .inl ?_⟩
      have e1 : decide (0 < a) = true := by
        cases q : decide (0 < a)
        · exact absurd (by rw [q]; simp) hc
        · rfl
      have e2 : decide ((w.length : Int) ≤ 2 * a) = false := by
        cases q : decide ((w.length : Int) ≤ 2 * a)
        · rfl
        · exact absurd (by rw [q]; simp) hc
      have e1' := of_decide_eq_true e1
      have e2' := of_decide_eq_false e2
      obtain ⟨n, rfl⟩ : ∃ n : Nat, a = n := ⟨a.toNat, by omega⟩
      have e4 : (w.length : Int) - (n : Int) = ((w.length - n : Nat) : Int) := by omega
      rw [tot_cons, tot_cons, tot_cons, tot_nil]
      dsimp only
      rw [und_length, e4, cutG_mid _ _ _ (by omega) (by omega), cutG_take, List.length_take, List.length_take, List.length_drop]
      omega
  · unfold aRoot at h
    dsimp only at h
    split at h
    · cases h
    · split at h <;> cases h
      refine ⟨RLW.one hx.cut, .inl ?_⟩
      rw [tot_cons, tot_nil]
      have := cutG_len w none (some ((w.length : Int) / a))
      dsimp only
      omega
theorem act_len3 {s : PSt} {x y : Tr} {f : Row} (h : act s x y = some f) : f.length ≤ 3 := by
  obtain ⟨k, i, a, b⟩ := s
  unfold act at h
  cases k <;> dsimp only at h
  · unfold aOut at h
    split at h <;> cases h
    exact Nat.zero_le _
  · cases h
    exact Nat.le_of_ble_eq_true rfl
  · unfold aJoin at h
    split at h <;> cases h
    exact Nat.le_of_ble_eq_true rfl
  · cases h
    exact Nat.le_of_ble_eq_true rfl
  · unfold aCut at h
    split at h <;> cases h
    exact Nat.le_of_ble_eq_true rfl
  · unfold aGlue at h
    split at h <;> cases h
    exact Nat.le_of_ble_eq_true rfl
  · unfold aUndo at h
    split at h <;> cases h
    exact Nat.le_of_ble_eq_true rfl
  · unfold aBack at h
    split at h
    · cases h
    · split at h <;> cases h
      exact Nat.le_of_ble_eq_true rfl
  · unfold aOpen at h
    split at h <;> cases h
    exact Nat.le_of_ble_eq_true rfl
  · unfold aRoot at h
    split at h
    · cases h
    · split at h <;> cases h
      exact Nat.le_of_ble_eq_true rfl
theorem stpS_repl (row : Row) (s : PSt) : stpS row s = (repl row s).map fun f => cutG row none (some s.i) ++ f ++ cutG row (some (s.i + s.k.wide)) none := by
  unfold stpS repl
  generalize atI row s.i = a
  generalize atI row (s.i + s.k.wide - 1) = b
  cases a <;> cases b <;> rfl
def isSplit : PyData → Bool
  | .tuple (.str z :: _) => z == "split"
  | _ => false
def nsp (l : List PyData) : Nat := (l.filter isSplit).length
theorem nsp_cons (d : PyData) (l : List PyData) : nsp (d :: l) = (if isSplit d = true then 1 else 0) + nsp l := by
  unfold nsp
  rw [List.filter_cons]
  split
  · rw [List.length_cons]; omega
  · omega
theorem nsp_app (a b : List PyData) : nsp (a ++ b) = nsp a + nsp b := by unfold nsp; rw [List.filter_append, List.length_append]
theorem nsp_le (a : List PyData) : nsp a ≤ a.length := List.length_filter_le _ _
structure Fit (row : Row) (l : List PyData) : Prop where
  lw : RLW row
  st : ∀ d ∈ l, StOk d
  sz : (tot row + 2 * l.length) * 2 ^ nsp l ≤ 40000
theorem Fit.tot' {row : Row} {l : List PyData} (h : Fit row l) : tot row ≤ 40000 := by
  have h1 := h.sz
  have h2 : 1 ≤ 2 ^ nsp l := Nat.one_le_two_pow
  have h3 : (tot row + 2 * l.length) * 1 ≤ (tot row + 2 * l.length) * 2 ^ nsp l := Nat.mul_le_mul_left _ h2
  omega
theorem Fit.ok {row : Row} {l : List PyData} (h : Fit row l) : RowOk row := by
  have h1 := h.tot'
  refine ⟨Nat.le_trans (len_tot row) h1, fun t ht => ⟨h.lw t ht, ?_⟩⟩
  have := mem_tot ht
  omega
theorem stpS_tot {row : Row} {s : PSt} {row' : Row} (h : stpS row s = some row') (hf : s.fits row.length = true) (hr : RLW row) : RLW row' ∧ (tot row' ≤ tot row + 2 ∨ s.k = .split ∧ tot row' ≤ 2 * tot row) := by
  unfold stpS at h
  unfold PSt.fits at hf
  rw [Bool.and_eq_true] at hf
  have f1 := of_decide_eq_true hf.1
  have f2 := of_decide_eq_true hf.2
  obtain ⟨n, hn⟩ : ∃ n : Nat, s.i = n := ⟨s.i.toNat, by omega⟩
  have hw : s.k.wide = if s.k.pair = true then 2 else 1 := rfl
  have hw1 : 1 ≤ s.k.wide := by rw [hw]; split <;> omega
  rw [hn] at h
  have hlt : n + s.k.wide ≤ row.length := by omega
  rw [atI_nat (show n < row.length by omega), show ((n : Int) + (s.k.wide : Int) - 1) = ((n + s.k.wide - 1 : Nat) : Int) by omega, atI_nat (show n + s.k.wide - 1 < row.length by omega)] at h
  dsimp only at h
  cases ha : act s row[n] row[n + s.k.wide - 1] with
  | none =>
    rw [ha] at h
    cases h
  | some f =>
    rw [ha] at h
    have h' := Option.some.inj h
    have hx := hr row[n] (List.getElem_mem _)
    have hy := hr row[n + s.k.wide - 1] (List.getElem_mem _)
    obtain ⟨g1, g2⟩ := act_tot ha hx hy
    rw [← h']
    refine ⟨(hr.cut.app g1).app hr.cut, ?_⟩
    rw [show ((n : Int) + (s.k.wide : Int)) = ((n + s.k.wide : Nat) : Int) by omega, cutG_take, cutG_drop, tot_app, tot_app]
    have split3 : tot row = tot (row.take n) + (row[n].1.length + 1) + tot (row.drop (n + 1)) := by
      conv => lhs; rw [← List.take_append_drop n row, List.drop_eq_getElem_cons (show n < row.length by omega)]
      rw [tot_app, tot_cons]
      omega
    by_cases hp : s.k.pair = true
    · have hw2 : s.k.wide = 2 := by rw [hw, if_pos hp]
      rw [if_pos hp] at g2
      have e2 : tot (row.drop (n + 1)) = (row[n + s.k.wide - 1].1.length + 1) + tot (row.drop (n + s.k.wide)) := by
        have e3 : n + s.k.wide - 1 = n + 1 := by omega
        have e4 : row[n + s.k.wide - 1]'(by omega) = row[n + 1]'(by omega) := by simp only [e3]
        have e5 : n + s.k.wide = n + 1 + 1 := by omega
        rw [List.drop_eq_getElem_cons (show n + 1 < row.length by omega), tot_cons, e4, e5]
      rcases g2 with g2 | ⟨g2, g3⟩
      · left; omega
      · rw [g2] at hp; cases hp
    · have hw2 : s.k.wide = 1 := by rw [hw, if_neg hp]
      rw [if_neg hp] at g2
      rw [hw2]
      rcases g2 with g2 | ⟨g2, g3⟩
      · left; omega
      · right; exact ⟨g2, by omega⟩
theorem Fit.step {row : Row} {d : PyData} {l : List PyData} {row' : Row} (h : Fit row (d :: l)) (e : stp row d = some row') : Fit row' l := by
  unfold stp at e
  cases hp : parse d with
  | none =>
    rw [hp] at e
    cases e
  | some s =>
    rw [hp] at e
    dsimp only at e
    split at e
    · next hf =>
      obtain ⟨g1, g2⟩ := stpS_tot e hf h.lw
      refine ⟨g1, fun x hx => h.st x (List.mem_cons_of_mem _ hx), ?_⟩
      have hs := h.sz
      rw [nsp_cons, List.length_cons] at hs
      have hm : 1 ≤ 2 ^ nsp l := Nat.one_le_two_pow
      rcases g2 with g2 | ⟨g2, g3⟩
      · have h3 : 2 ^ nsp l ≤ 2 ^ ((if isSplit d = true then 1 else 0) + nsp l) := Nat.pow_le_pow_right (by omega) (by omega)
        refine Nat.le_trans (Nat.mul_le_mul (show _ ≤ tot row + 2 * (l.length + 1) by omega) h3) hs
      · have hd : isSplit d = true := by
          rw [parse_some hp]
          unfold PSt.d
          rw [g2]
          exact (show (Kd.split.name == Str.ofString "split") = true by decide +kernel)
        rw [if_pos hd, Nat.pow_add, Nat.pow_one, ← Nat.mul_assoc] at hs
        refine Nat.le_trans (Nat.mul_le_mul_right _ ?_) hs
        omega
    · cases e
theorem stps_none (l : List PyData) : l.foldl (fun (o : Option Row) d => o.bind fun r => stp r d) none = none := by
  induction l with
  | nil => rfl
  | cons d l ih => exact ih
theorem stps_cons (row : Row) (d : PyData) (l : List PyData) : stps row (d :: l) = (stp row d).bind fun r => stps r l := by
  unfold stps
  rw [List.foldl_cons]
  show List.foldl _ (stp row d) l = _
  cases stp row d with
  | none => exact stps_none l
  | some r => rfl
theorem stps_app (row : Row) (l m : List PyData) : stps row (l ++ m) = (stps row l).bind fun r => stps r m := by
  induction l generalizing row with
  | nil => rfl
  | cons d l ih =>
    rw [List.cons_append, stps_cons, stps_cons]
    cases stp row d with
    | none => rfl
    | some r => exact ih r
theorem Fit.steps {row : Row} {l m : List PyData} {row' : Row} (h : Fit row (l ++ m)) (e : stps row l = some row') : Fit row' m := by
  induction l generalizing row with
  | nil => cases e; exact h
  | cons d l ih =>
    rw [stps_cons] at e
    cases q : stp row d with
    | none =>
      rw [q] at e
      cases e
    | some r =>
      rw [q] at e
      exact ih (h.step q) e
theorem stps_part {row : Row} {l m : List PyData} (e : stps row l = none) : stps row (l ++ m) = none := by
  rw [stps_app, e]
  rfl
/-! ### shaped -/
theorem strOk_w {w : Wd} (h : LW w) : PyData.strOk (S w) = true := by
  unfold PyData.strOk
  rw [← Array.all_toList]
  exact List.all_eq_true.mpr fun c hc => decide_eq_true (Nat.lt_trans (lt_low c (h c hc)) (by decide))
theorem rowLay {l : Row} (h : RLW l) : PyData.canLayAll0 (tsD l) = true ∧ PyData.depthAll (tsD l) ≤ 1 := by
  induction l with
  | nil => exact ⟨by simp [tsD, PyData.canLayAll0], by simp [tsD, PyData.depthAll]⟩
  | cons t l ih =>
    obtain ⟨h1, h2⟩ := ih fun x hx => h x (List.mem_cons_of_mem _ hx)
    have h3 := strOk_w (h t List.mem_cons_self)
    have h1' : PyData.canLayAll0 (List.map tD l) = true := h1
    have h2' : PyData.depthAll (List.map tD l) ≤ 1 := h2
    refine ⟨?_, ?_⟩
    · simp [tsD, tD, PyData.canLayAll0, PyData.canLay0, h1', h3]
    · have : PyData.depth (tD t) = 1 := by simp [tD, PyData.depth, PyData.depthAll]
      simp only [tsD, List.map_cons, PyData.depthAll, this]
      omega
theorem shaped_T {l : Row} (h : RLW l) : SeqAt.shaped (.tuple (tsD l)) = true := by
  obtain ⟨h1, h2⟩ := rowLay h
  unfold SeqAt.shaped
  rw [Bool.and_eq_true]
  refine ⟨by simpa [PyData.canLay0] using h1, decide_eq_true ?_⟩
  simp only [PyData.depth]
  omega
theorem shaped_L {l : Row} (h : RLW l) : SeqAt.shaped (.list (tsD l)) = true := by
  obtain ⟨h1, h2⟩ := rowLay h
  unfold SeqAt.shaped
  rw [Bool.and_eq_true]
  refine ⟨by simpa [PyData.canLay0] using h1, decide_eq_true ?_⟩
  simp only [PyData.depth]
  omega
def isDone : Option Row → Bool
  | some [] => true
  | _ => false
theorem eqv_T {o : Option Row} : PyData.eqv (optT o) (.tuple []) = isDone o := by
  cases o with
  | none => simp [optT, PyData.eqv, isDone]
  | some l => cases l <;> simp [optT, tsD, PyData.eqv, PyData.eqvAll, isDone]
theorem eqv_L {o : Option Row} : PyData.eqv (optL o) (.list []) = isDone o := by
  cases o with
  | none => simp [optL, PyData.eqv, isDone]
  | some l => cases l <;> simp [optL, tsD, PyData.eqv, PyData.eqvAll, isDone]
end Kn

set_option Elab.async false
set_option linter.all false
set_option maxRecDepth 100000
set_option maxHeartbeats 4000000
/-! The steps, one by one. -/
namespace Kn
open PySem PySem.Spec PyProof.Rows L2
local macro_rules | `(tactic| walk_at "sd") => `(tactic| first | trivial | assumption | walk_at "sz")
local macro_rules | `(tactic| walk_at "sz") => `(tactic| first | assumption | decide | omega | rfl | (simp only [List.length_append, List.length_map, List.length_cons, List.length_nil, List.length_reverse]; omega))
local macro_rules | `(tactic| walk_at "rv") => `(tactic| with_reducible first
  | exact rv_ix0 | exact rv_ix1 | exact rv_ix2 | exact rv_eqI | exact rv_neI | exact rv_eqE | exact rv_neE | exact rv_eqW | exact rv_neW | exact rv_eqS | exact rv_neS
  | exact rv_int0 | exact rv_bl0
  | exact rv_ixT0 | exact rv_ixT1
  | exact rv_ixRT (by assumption) | exact rv_ixRL (by assumption) | (apply rv_ixW; walk_at "sz"; assumption)
  | (refine rv_addW ?_; walk_at "sz")
  | (refine rv_catRT ?_; walk_at "sz") | (refine rv_catRL ?_; walk_at "sz")
  | (refine rv_intC ?_; assumption) | (apply rv_mulW; walk_at "sz"; walk_at "sz"; walk_at "sz")
  | exact rv_inW | exact rv_inSign | exact rv_isN | exact rv_notN | exact rv_notBl
  | exact rv_ixT (by with_unfolding_all rfl) | exact rv_ixL (by with_unfolding_all rfl)
  | exact rv_ixT (by assumption) | exact rv_ixL (by assumption)
  | (refine rv_catA ?_; walk_at "sz") | (refine rv_cat ?_; walk_at "sz"))
local macro_rules | `(tactic| walk_at "rs") => `(tactic| with_reducible first
  | exact rs_rT | exact rs_rL
  | (refine rs_w ?_ ?_; walk_at "sz"; (with_unfolding_all first | exact Nat.zero_le _ | exact HT.sIx_le _ _ (Nat.zero_le _) _ | assumption))
  | exact rs_tup | exact rs_list
  | (refine rs_str ?_; walk_at "sz"))
local macro_rules | `(tactic| walk_at "rc") => `(tactic| with_reducible first
  | exact rc_lenD3 | exact rc_lenRT | exact rc_lenRL | exact rc_lenT | exact rc_lenL | (refine rc_lenW ?_; walk_at "sz") | (refine rc_lenS ?_; walk_at "sz")
  | exact rc_isi (kit_int _) | exact rc_isi (kit_bool _) | exact rc_isi (kit_str _) | exact rc_isi (kit_tup _)
  | exact rc_max | exact rc_min | exact rc_int | exact rc_abs | exact rc_all | exact rc_tupL | exact rc_tupT | exact rc_list | exact rc_listT | (refine rc_listW ?_; walk_at "sz"))
local macro_rules | `(tactic| walk_at "rm") => `(tactic| first | (with_reducible apply rm_lowW; assumption; walk_at "sz") | (with_reducible apply rm_upW; assumption; walk_at "sz"))
local macro_rules | `(tactic| walk_at "ea") => `(tactic| first
  | with_reducible exact ea_nil
  | ((with_reducible apply ea_cons); walk_at "ev"; walk_at "ea"))
local macro_rules | `(tactic| walk_at "eo") => `(tactic| first
  | with_reducible exact eo_none
  | ((with_reducible apply eo_some); walk_at "ev"))
local macro_rules | `(tactic| walk_at "et") => `(tactic| first
  | ((with_reducible apply et_test); walk_at "ev")
  | ((with_reducible apply et_B); walk_at "ev")
  | ((with_reducible apply et_not); walk_at "et")
  | ((with_reducible apply et_and); walk_at "et"; intro _; walk_at "et")
  | ((with_reducible apply et_or); walk_at "et"; intro _; walk_at "et"))
local macro_rules | `(tactic| walk_at "ev") => `(tactic| first
  | with_reducible exact ev_int | with_reducible exact ev_str | with_reducible exact ev_bl | with_reducible exact ev_non | with_reducible exact ev_val
  | ((with_reducible apply ev_var); exact rfl)
  | ((with_reducible apply ev_op); walk_at "ev"; walk_at "ev"; walk_at "rv")
  | ((with_reducible apply ev_un); walk_at "ev"; exact ru_neg)
  | ((with_reducible apply ev_and); walk_at "ev"; intro _; walk_at "ev")
  | ((with_reducible apply ev_or); walk_at "ev"; intro _; walk_at "ev")
  | ((with_reducible apply ev_not); walk_at "ev")
  | ((with_reducible apply ev_sl); walk_at "ev"; walk_at "eo"; walk_at "eo"; walk_at "rs")
  | ((with_reducible apply ev_chain); walk_at "ev"; walk_at "ev"; walk_at "rv"; (intro _; walk_at "ev"); (intro _; walk_at "rv"))
  | walk_at "ec"
  | ((with_reducible apply ev_if); walk_at "et"; (intro _; walk_at "ev"); (intro _; walk_at "ev"))
  | ((with_reducible apply ev_m0); walk_at "ev"; walk_at "rm")
  | ((with_reducible apply ev_cb); walk_at "ea"; walk_at "rc")
  | ((with_reducible apply ev_tD); walk_at "ea")
  | with_reducible exact ev_rT0 | with_reducible exact ev_rL0
  | ((with_reducible apply ev_rT1); walk_at "ea") | ((with_reducible apply ev_rT2); walk_at "ea") | ((with_reducible apply ev_rT3); walk_at "ea")
  | ((with_reducible apply ev_rL1); walk_at "ea") | ((with_reducible apply ev_rL2); walk_at "ea") | ((with_reducible apply ev_rL3); walk_at "ea") | ((with_reducible apply ev_rL4); walk_at "ea")
  | ((with_reducible apply ev_revW); walk_at "ev"; walk_at "sz")
  | ((with_reducible apply ev_revL); walk_at "ev")
  | ((with_reducible apply ev_revT); walk_at "ev"))
local macro_rules | `(tactic| walk_at "ret") => `(tactic| (apply go_retE; assumption; exact rfl; walk_at "ev"))
local macro_rules | `(tactic| walk_at "if") => `(tactic| (apply go_if; walk_at "et"))
local macro_rules | `(tactic| walk_at "set") => `(tactic| (apply go_set; walk_at "ev"))
local macro_rules | `(tactic| walk_at "eg") => `(tactic| first | exact eg_name (by decide) | exact eg_tD (by decide) (by decide) (by decide))
local macro_rules | `(tactic| walk_at "ec") => `(tactic| first | ((with_reducible apply ec_replaced); walk_at "ea"; walk_at "sd"; walk_at "sd"))
section
variable {P : Program} {w : World} {K : PySem.W.Frag} {mg : Str → Option Value} {base : Heap} {r : Res} {ds : Sl} {ta : TA}
theorem PSt.d_eq (s : PSt) : s.d = .tuple (.str s.k.name :: .int s.i :: s.args.tail.map PyData.int) := by
  obtain ⟨k, i, a, b⟩ := s
  cases k <;> rfl
theorem ev_wide (T : Tx K mg w) {k : Kd} {te : TE} (h : Ev K r te ds (Is (.d (.str k.name)))) : Ev K r (tIf (tTest (tOp (rIn K false) te (tC (.ref (He.ga K "PAIRS"))))) (tC (.int 2)) (tC (.int 1))) ds (Is (.d (.int (k.wide : Nat)))) := by
  refine evn_if (et_test (ev_op h ev_val (rv_inPairs T (k := k)))) (fun e => ?_) fun e => ?_
  · unfold Kd.wide
    rw [if_pos e.symm]
    exact ev_int
  · unfold Kd.wide
    rw [if_neg (b_ff e.symm)]
    exact ev_int
def sp_done (K : PySem.W.Frag) : Sp := spP K (fun a : Row × PSt => [.d (.tuple (tsD a.1)), .d a.2.d]) (fun a => tot a.1 ≤ 40000 ∧ RLW a.1 ∧ a.2.fits a.1.length = true) fun a => .d (optT (stpS a.1 a.2))
-- slots: 0=row 1=step 2=found
theorem sc_done : FnScope ["row", "step", "found"] ["row", "step"] (defScope s_done) := C8.fnScope_by (by decide +kernel)
theorem c_done (T : Tx K mg w) : Cal P w K mg base 4 "done" ["row", "step"] (sp_done K) := by
  refine calG T.e_done T.g_done sc_done (fun _ _ _ _ _ _ us hl => match us, hl with | [_, _], _ => rfl) (fun _ _ => rfl) fun f cdv A outer s H E hr => ?_
  refine ⟨_, (pss_cons (ps_set (i := 2) sc_done.nd rfl (Or.inl rfl) (pe_c (c_replaced T) hr (by decide) (by rfl) (pa_cons (pv 0) (pa_cons (pv 1) pa_nil))))
    (pss_cons (ps_if (pt_cmpR op_isN (pv 2) pe_non (nomark _)) (pss_cons (ps_ret pe_non)
    pss_nil) pss_nil)
    (pss_cons (ps_ret (pe_op op_catA (pe_op op_catA (pe_slice sl_tupA (pv 0) po_none (po_some (pe_ix ix_tup (pv 1) pe_int (fun _ _ => rfl)))) (pv 2)) (pe_slice sl_tupA (pv 0) (po_some (pe_op op_add (pe_ix ix_tup (pv 1) pe_int (fun _ _ => rfl)) (pe_ifExp (pt_cmpR op_in_seq (pe_ix ix_tup (pv 1) pe_int (fun _ _ => rfl)) (pe_gc (v := .ref (He.ga K "PAIRS")) (by rfl) ⟨_, T.g_PAIRS, rfl⟩) (by rfl)) pe_int pe_int))) po_none)))
    pss_nil))), ?_⟩
  intro a r F0 H0 D hp R
  dsimp only [nox_K]
  obtain ⟨row, s⟩ := a
  obtain ⟨hl, hb, hf⟩ := hp
  dsimp only at hl hb hf ⊢
  have hok : RowOk row := ⟨Nat.le_trans (len_tot row) hl, fun t ht => ⟨hb t ht, by have := mem_tot ht; omega⟩⟩
  obtain ⟨x, y, hx, hy, mx, my, e⟩ := fits_at hf
  have q1 := len_tot row
  have es := stpS_repl row s
  walk_at "set"
  cases q : repl row s with
  | none =>
    rw [q] at es
    refine go_ifT ?_ ?_
    · apply et_is; walk_at "et"; rfl
    · refine go_retE (by assumption) rfl ev_non ?_
      rw [es]
      rfl
  | some f =>
    rw [q] at es
    refine go_ifF ?_ (go_skip ?_)
    · apply et_is; walk_at "et"; rfl
    have q2 : f.length ≤ 3 := act_len3 (by rw [← e, q])
    have q3 := cutG_len row none (some s.i)
    have q4 := cutG_len row (some (s.i + s.k.wide)) none
    refine go_retE (w' := .d (.tuple (tsD (cutG row none (some s.i) ++ f ++ cutG row (some (s.i + s.k.wide)) none)))) (by assumption) rfl ?_ ?_
    · rw [PSt.d_eq]
      refine ev_op (x := .d (.tuple (tsD (cutG row none (some s.i) ++ f)))) (y := .d (.tuple (tsD (cutG row (some (s.i + s.k.wide)) none)))) (ev_op (x := .d (.tuple (tsD (cutG row none (some s.i))))) (y := .d (.tuple (tsD f))) ?_ ?_ (rv_catRT ?_)) (ev_sl (w := .d (.tuple (tsD row))) ?_ (eo_some (ev_op (x := .d (.int s.i)) (y := .d (.int (s.k.wide : Nat))) ?_ (ev_wide T ?_) rv_int0)) eo_none rs_rT) (rv_catRT ?_)
      · walk_at "ev"
      · exact ev_var rfl
      · omega
      · walk_at "ev"
      · walk_at "ev"
      · walk_at "ev"
      · rw [List.length_append]; omega
    · rw [es]
      rfl
theorem ec_done {row : Row} {s : PSt} (h : EvA K r ta ds (IsA [.d (.tuple (tsD row)), .d s.d])) (h1 : tot row ≤ 40000) (h2 : RLW row) (h3 : s.fits row.length = true) : Ev K r (tCall (sp_done K) [] E0 ta) ds (Is (.d (optT (stpS row s)))) := ev_call (row, s) h rfl ⟨h1, h2, h3⟩
theorem ec_is_step {d : PyData} {n : Nat} (h : EvA K r ta ds (IsA [.d d, .d (.int (n : Nat))])) (h1 : StOk d) : Ev K r (tCall (sp_is_step K) [] E0 ta) ds (Is (.d (.bool (isStepB d n)))) := ev_call (d, n) h rfl h1
def sp_all_done (K : PySem.W.Frag) : Sp := spP K (fun a : Row × List PyData => [.d (.tuple (tsD a.1)), .d (.tuple a.2)]) (fun a => Fit a.1 a.2 ∧ a.2.length ≤ 10000) fun a => .d (optT (stps a.1 a.2))
-- slots: 0=row 1=steps 2=step
theorem sc_all_done : FnScope ["row", "steps", "step"] ["row", "steps"] (defScope s_all_done) := C8.fnScope_by (by decide +kernel)
theorem c_all_done (T : Tx K mg w) : Cal P w K mg base 5 "all_done" ["row", "steps"] (sp_all_done K) := by
  refine calG T.e_all_done T.g_all_done sc_all_done (fun _ _ _ _ _ _ us hl => match us, hl with | [_, _], _ => rfl) (fun _ _ => rfl) fun f cdv A outer s H E hr => ?_
  refine ⟨_, (pss_cons (ps_if (pt_not (pt_val (pe_callB call_isi (by rfl) T.f_isinstance (by decide +kernel) (pa_cons (pv 1) (pa_cons (pe_bltn (v := .ty "tuple") (by rfl) T.f_tuple (by decide +kernel) rfl) pa_nil))))) (pss_cons (ps_ret pe_non)
    pss_nil) pss_nil)
    (pss_cons (ps_for PassesOwn.never rfl (pi_tup (pv 1)) (pg_name (i := 2) sc_all_done.nd rfl (Or.inl rfl)) (pss_cons (ps_set (i := 0) sc_all_done.nd rfl (Or.inl rfl) (pe_ifExp (pt_val (pe_c (c_is_step T) hr (by decide) (by rfl) (pa_cons (pv 2) (pa_cons (pe_callB call_len_seq (by rfl) T.f_len PySem.boot_len (pa_cons (pv 0) pa_nil)) pa_nil)))) (pe_c (c_done T) hr (by decide) (by rfl) (pa_cons (pv 0) (pa_cons (pv 2) pa_nil))) pe_non))
    (pss_cons (ps_if (pt_cmpR op_isN (pv 0) pe_non (nomark _)) (pss_cons (ps_ret pe_non)
    pss_nil) pss_nil)
    pss_nil)))
    (pss_cons (ps_ret (pv 0))
    pss_nil))), ?_⟩
  intro a r F0 H0 D hp R
  dsimp only [nox_K]
  obtain ⟨row, l⟩ := a
  obtain ⟨hfit, hlen⟩ := hp
  dsimp only at hfit hlen ⊢
  refine go_ifF ?_ (go_skip ?_)
  · apply et_is; walk_at "et"; rfl
  refine go_for (vs := [2]) (xs := l) R (fun i o ds => o = none ∧ ∃ (r1 : Row) (sl : Option Da), stps row (l.take i) = some r1 ∧ Fit r1 (l.drop i) ∧ ds = [some (.d (.tuple (tsD r1))), some (.d (.tuple l)), sl]) (ei_tup (ev_var rfl)) ⟨rfl, row, none, rfl, hfit, rfl⟩ ?_ ?_
  · rintro H1 i d o' ds' hd _ ⟨rfl, r1, sl, e1, f1, rfl⟩
    refine ⟨_, eg_name (by decide), fun D' R' nx => ?_⟩
    have hi := (List.getElem?_eq_some_iff.mp hd).1
    have hdr : l.drop i = d :: l.drop (i + 1) := by
      rw [List.drop_eq_getElem_cons hi, (List.getElem?_eq_some_iff.mp hd).2]
    have htk : l.take (i + 1) = l.take i ++ [d] := by
      rw [List.take_add_one, hd]
      rfl
    rw [hdr] at f1
    have e2 : stps row (l.take (i + 1)) = stp r1 d := by
      rw [htk, stps_app, e1]
      show stps r1 [d] = _
      rw [stps_cons]
      cases stp r1 d <;> rfl
    have hst := f1.st d List.mem_cons_self
    apply go_set (w := .d (optT (stp r1 d)))
    · refine evn_if (et_test (ec_is_step (d := d) (n := r1.length) ?_ hst)) (fun e => ?_) fun e => ?_
      · walk_at "ea"
      · unfold isStepB at e
        cases hp : parse d with
        | none =>
          rw [hp] at e
          cases e
        | some s =>
          rw [hp] at e
          have hs := parse_some hp
          have e3 : stp r1 d = stpS r1 s := by
            unfold stp
            rw [hp]
            exact if_pos e.symm
          rw [e3]
          subst hs
          refine ec_done ?_ f1.tot' f1.lw e.symm
          walk_at "ea"
      · have e3 : stp r1 d = none := by
          unfold stp
          unfold isStepB at e
          cases hp : parse d with
          | none => rfl
          | some s =>
            rw [hp] at e
            exact if_neg (b_ff e.symm)
        rw [e3]
        exact ev_non
    · cases q : stp r1 d with
      | none =>
        refine go_ifT ?_ ?_
        · apply et_is; walk_at "et"; rfl
        · refine go_retE R' rfl ev_non ?_
          have : stps row l = none := by
            rw [← List.take_append_drop (i + 1) l]
            exact stps_part (by rw [e2, q])
          rw [this]
          rfl
      | some r2 =>
        refine go_ifF ?_ (go_skip ?_)
        · apply et_is; walk_at "et"; rfl
        · exact go_next (nx none _ rfl ⟨rfl, r2, _, by rw [e2, q], f1.step q, rfl⟩)
  · rintro o' ds' _ ⟨rfl, r1, sl, e1, f1, rfl⟩
    rw [List.take_length] at e1
    refine go_retE R rfl (ev_var rfl) ?_
    rw [e1]
    rfl
theorem ec_all_done {row : Row} {l : List PyData} (h : EvA K r ta ds (IsA [.d (.tuple (tsD row)), .d (.tuple l)])) (h1 : Fit row l) (h2 : l.length ≤ 10000) : Ev K r (tCall (sp_all_done K) [] E0 ta) ds (Is (.d (optT (stps row l)))) := ev_call (row, l) h rfl ⟨h1, h2⟩
theorem stps_lw {row : Row} {l : List PyData} (h : Fit row l) {r1 : Row} (e : stps row l = some r1) : RLW r1 := by
  have h' : Fit row (l ++ []) := by rw [List.append_nil]; exact h
  exact (h'.steps e).lw
theorem shaped_oT {row : Row} {l : List PyData} (h : Fit row l) : SeqAt.shaped (optT (stps row l)) = true := by
  cases q : stps row l with
  | none => rfl
  | some r1 => exact shaped_T (stps_lw h q)
def sp_lead_to_nothing (K : PySem.W.Frag) : Sp := spP K (fun a : Row × List PyData => [.d (.tuple (tsD a.1)), .d (.tuple a.2)]) (fun a => Fit a.1 a.2 ∧ a.2.length ≤ 10000) fun a => .d (.bool (isDone (stps a.1 a.2)))
-- slots: 0=row 1=steps
theorem sc_lead_to_nothing : FnScope ["row", "steps"] ["row", "steps"] (defScope s_lead_to_nothing) := C8.fnScope_by (by decide +kernel)
theorem c_lead_to_nothing (T : Tx K mg w) : Cal P w K mg base 6 "lead_to_nothing" ["row", "steps"] (sp_lead_to_nothing K) := by
  refine calG T.e_lead_to_nothing T.g_lead_to_nothing sc_lead_to_nothing (fun _ _ _ _ _ _ us hl => match us, hl with | [_, _], _ => rfl) (fun _ _ => rfl) fun f cdv A outer s H E hr => ?_
  refine ⟨_, (pss_cons (ps_ret (pe_cmpR (op_eqD hr.units) (pe_c (c_all_done T) hr (by decide) (by rfl) (pa_cons (pv 0) (pa_cons (pv 1) pa_nil))) (pe_tup pa_nil) (nomark _)))
    pss_nil), ?_⟩
  intro a r F0 H0 D hp R
  dsimp only [nox_K]
  obtain ⟨row, l⟩ := a
  obtain ⟨hfit, hlen⟩ := hp
  dsimp only at hfit hlen ⊢
  refine go_retE R rfl (ev_op (ec_all_done (ea_cons (ev_var rfl) (ea_cons (ev_var rfl) ea_nil)) hfit hlen) (ev_tup (xs := []) ea_nil (by simp)) (rv_eqD rfl (shaped_oT hfit) rfl)) ?_
  rw [eqv_T]
theorem ec_lead_to_nothing {row : Row} {l : List PyData} (h : EvA K r ta ds (IsA [.d (.tuple (tsD row)), .d (.tuple l)])) (h1 : Fit row l) (h2 : l.length ≤ 10000) : Ev K r (tCall (sp_lead_to_nothing K) [] E0 ta) ds (Is (.d (.bool (isDone (stps row l))))) := ev_call (row, l) h rfl ⟨h1, h2⟩
def sameD (a b : Row) : PyData := .tuple [.str "same", .tuple (tsD a), .tuple (tsD b)]
structure Ask (a b : Row) (l : List PyData) : Prop where
  okA : BlksOk a
  okB : BlksOk b
  fit : Fit (a ++ invR b) l
  len : l.length ≤ 10000
def answer (a b : Row) (l : List PyData) : Bool := isDone (stps (a ++ invR b) l)
def sp_shows_same (K : PySem.W.Frag) : Sp := spP K (fun a : Row × Row × List PyData => [.d (sameD a.1 a.2.1), .d (.tuple a.2.2)]) (fun a => Ask a.1 a.2.1 a.2.2) fun a => .d (.bool (answer a.1 a.2.1 a.2.2))
-- slots: 0=claim 1=paper
theorem sc_shows_same : FnScope ["claim", "paper"] ["claim", "paper"] (defScope s_shows_same) := C8.fnScope_by (by decide +kernel)
theorem c_shows_same (T : Tx K mg w) : Cal P w K mg base 7 "shows_same" ["claim", "paper"] (sp_shows_same K) := by
  refine calG T.e_shows_same T.g_shows_same sc_shows_same (fun _ _ _ _ _ _ us hl => match us, hl with | [_, _], _ => rfl) (fun _ _ => rfl) fun f cdv A outer s H E hr => ?_
  refine ⟨_, (pss_cons (ps_if (PW.pt (pw_or (pt_not (pt_val (pe_c (c_are_blocks T) hr (by decide) (by rfl) (pa_cons (pe_ix ix_tup (pv 0) pe_int (fun _ _ => rfl)) pa_nil)))) (pw_or1 (pt_not (pt_val (pe_c (c_are_blocks T) hr (by decide) (by rfl) (pa_cons (pe_ix ix_tup (pv 0) pe_int (fun _ _ => rfl)) pa_nil))))))) (pss_cons (ps_ret pe_bl)
    pss_nil) pss_nil)
    (pss_cons (ps_ret (pe_c (c_lead_to_nothing T) hr (by decide) (by rfl) (pa_cons (pe_op op_catA (pe_ix ix_tup (pv 0) pe_int (fun _ _ => rfl)) (pe_c (c_undone_row T) hr (by decide) (by rfl) (pa_cons (pe_ix ix_tup (pv 0) pe_int (fun _ _ => rfl)) pa_nil))) (pa_cons (pv 1) pa_nil))))
    pss_nil)), ?_⟩
  intro a r F0 H0 D hp R
  dsimp only [nox_K]
  obtain ⟨a, b, l⟩ := a
  obtain ⟨ha, hb, hfit, hlen⟩ := hp
  dsimp only at ha hb hfit hlen ⊢
  rw [show sameD a b = .tuple [.str "same", .tuple (tsD a), .tuple (tsD b)] from rfl]
  have l1 := ha.1
  have l2 := hb.1
  refine go_ifF (et_orF ?_ ?_) (go_skip ?_)
  · apply et_is
    · apply et_not
      apply et_B
      refine ec_are_blocks ?_ ha
      walk_at "ea"
    · rfl
  · apply et_is
    · apply et_not
      apply et_B
      refine ec_are_blocks ?_ hb
      walk_at "ea"
    · rfl
  refine go_retE R rfl (ec_lead_to_nothing (ea_cons (ev_op ?_ (ec_undone_row (ea_one ?_) (by omega)) (rv_catRT ?_)) (ea_one (ev_var rfl))) hfit hlen) ?_
  · walk_at "ev"
  · walk_at "ev"
  · unfold invR
    rw [List.length_map, List.length_reverse]
    omega
  · rfl
end
end Kn

set_option Elab.async false
set_option linter.all false
set_option maxRecDepth 100000
set_option maxHeartbeats 4000000
/-! accepts, of claims "same". -/
namespace Kn
open PySem PySem.Spec PyProof.Rows L2
local macro_rules | `(tactic| walk_at "sd") => `(tactic| first | trivial | assumption | walk_at "sz")
local macro_rules | `(tactic| walk_at "sz") => `(tactic| first | assumption | decide | omega | rfl | (simp only [List.length_append, List.length_map, List.length_cons, List.length_nil, List.length_reverse]; omega))
local macro_rules | `(tactic| walk_at "rv") => `(tactic| with_reducible first
  | exact rv_ix0 | exact rv_ix1 | exact rv_ix2 | exact rv_eqI | exact rv_neI | exact rv_eqE | exact rv_neE | exact rv_eqW | exact rv_neW | exact rv_eqS | exact rv_neS
  | exact rv_int0 | exact rv_bl0
  | exact rv_ixT0 | exact rv_ixT1
  | exact rv_ixRT (by assumption) | exact rv_ixRL (by assumption) | (apply rv_ixW; walk_at "sz"; assumption)
  | (refine rv_addW ?_; walk_at "sz")
  | (refine rv_catRT ?_; walk_at "sz") | (refine rv_catRL ?_; walk_at "sz")
  | (refine rv_intC ?_; assumption) | (apply rv_mulW; walk_at "sz"; walk_at "sz"; walk_at "sz")
  | exact rv_inW | exact rv_inSign | exact rv_isN | exact rv_notN | exact rv_notBl
  | exact rv_ixT (by with_unfolding_all rfl) | exact rv_ixL (by with_unfolding_all rfl)
  | exact rv_ixT (by assumption) | exact rv_ixL (by assumption)
  | (refine rv_catA ?_; walk_at "sz") | (refine rv_cat ?_; walk_at "sz"))
local macro_rules | `(tactic| walk_at "rs") => `(tactic| with_reducible first
  | exact rs_rT | exact rs_rL
  | (refine rs_w ?_ ?_; walk_at "sz"; (with_unfolding_all first | exact Nat.zero_le _ | exact HT.sIx_le _ _ (Nat.zero_le _) _ | assumption))
  | exact rs_tup | exact rs_list
  | (refine rs_str ?_; walk_at "sz"))
local macro_rules | `(tactic| walk_at "rc") => `(tactic| with_reducible first
  | exact rc_lenD3 | exact rc_lenRT | exact rc_lenRL | exact rc_lenT | exact rc_lenL | (refine rc_lenW ?_; walk_at "sz") | (refine rc_lenS ?_; walk_at "sz")
  | exact rc_isi (kit_int _) | exact rc_isi (kit_bool _) | exact rc_isi (kit_str _) | exact rc_isi (kit_tup _)
  | exact rc_max | exact rc_min | exact rc_int | exact rc_abs | exact rc_all | exact rc_tupL | exact rc_tupT | exact rc_list | exact rc_listT | (refine rc_listW ?_; walk_at "sz"))
local macro_rules | `(tactic| walk_at "rm") => `(tactic| first | (with_reducible apply rm_lowW; assumption; walk_at "sz") | (with_reducible apply rm_upW; assumption; walk_at "sz"))
local macro_rules | `(tactic| walk_at "ea") => `(tactic| first
  | with_reducible exact ea_nil
  | ((with_reducible apply ea_cons); walk_at "ev"; walk_at "ea"))
local macro_rules | `(tactic| walk_at "eo") => `(tactic| first
  | with_reducible exact eo_none
  | ((with_reducible apply eo_some); walk_at "ev"))
local macro_rules | `(tactic| walk_at "et") => `(tactic| first
  | ((with_reducible apply et_test); walk_at "ev")
  | ((with_reducible apply et_B); walk_at "ev")
  | ((with_reducible apply et_not); walk_at "et")
  | ((with_reducible apply et_and); walk_at "et"; intro _; walk_at "et")
  | ((with_reducible apply et_or); walk_at "et"; intro _; walk_at "et"))
local macro_rules | `(tactic| walk_at "ev") => `(tactic| first
  | with_reducible exact ev_int | with_reducible exact ev_str | with_reducible exact ev_bl | with_reducible exact ev_non | with_reducible exact ev_val
  | ((with_reducible apply ev_var); exact rfl)
  | ((with_reducible apply ev_op); walk_at "ev"; walk_at "ev"; walk_at "rv")
  | ((with_reducible apply ev_un); walk_at "ev"; exact ru_neg)
  | ((with_reducible apply ev_and); walk_at "ev"; intro _; walk_at "ev")
  | ((with_reducible apply ev_or); walk_at "ev"; intro _; walk_at "ev")
  | ((with_reducible apply ev_not); walk_at "ev")
  | ((with_reducible apply ev_sl); walk_at "ev"; walk_at "eo"; walk_at "eo"; walk_at "rs")
  | ((with_reducible apply ev_chain); walk_at "ev"; walk_at "ev"; walk_at "rv"; (intro _; walk_at "ev"); (intro _; walk_at "rv"))
  | walk_at "ec"
  | ((with_reducible apply ev_if); walk_at "et"; (intro _; walk_at "ev"); (intro _; walk_at "ev"))
  | ((with_reducible apply ev_m0); walk_at "ev"; walk_at "rm")
  | ((with_reducible apply ev_cb); walk_at "ea"; walk_at "rc")
  | ((with_reducible apply ev_tD); walk_at "ea")
  | with_reducible exact ev_rT0 | with_reducible exact ev_rL0
  | ((with_reducible apply ev_rT1); walk_at "ea") | ((with_reducible apply ev_rT2); walk_at "ea") | ((with_reducible apply ev_rT3); walk_at "ea")
  | ((with_reducible apply ev_rL1); walk_at "ea") | ((with_reducible apply ev_rL2); walk_at "ea") | ((with_reducible apply ev_rL3); walk_at "ea") | ((with_reducible apply ev_rL4); walk_at "ea")
  | ((with_reducible apply ev_revW); walk_at "ev"; walk_at "sz")
  | ((with_reducible apply ev_revL); walk_at "ev")
  | ((with_reducible apply ev_revT); walk_at "ev"))
local macro_rules | `(tactic| walk_at "ret") => `(tactic| (apply go_retE; assumption; exact rfl; walk_at "ev"))
local macro_rules | `(tactic| walk_at "if") => `(tactic| (apply go_if; walk_at "et"))
local macro_rules | `(tactic| walk_at "set") => `(tactic| (apply go_set; walk_at "ev"))
local macro_rules | `(tactic| walk_at "eg") => `(tactic| first | exact eg_name (by decide) | exact eg_tD (by decide) (by decide) (by decide))
section
variable {P : Program} {w w' : World} {K K' : PySem.W.Frag} {mg : Str → Option Value} {base : Heap} {r : Res} {ds : Sl} {ta : TA}
theorem j_at (T : Tx K mg w) : PySem.W.nsIn K (He.ga K "JUDGES") "same" = some (some (.ref (jAt K))) ∧ ∀ H, SqT K H (jAt K) [.int 3, .ref (He.ga K "shows_same")] := by
  have h := T.m
  unfold ex at h
  rw [Bool.and_eq_true, Bool.and_eq_true, Bool.and_eq_true, Bool.and_eq_true] at h
  have h1 := h.2.2.2.2
  unfold jB at h1
  rw [Bool.and_eq_true] at h1
  refine ⟨He.eqO_ok h1.1, fun H => ?_⟩
  have h2 := h1.2
  cases q : K.lookup (jAt K) with
  | none =>
    rw [q] at h2
    cases h2
  | some o =>
    obtain ⟨oc, od, dt, osl⟩ := o
    rw [q] at h2
    cases oc with
    | type c =>
      cases dt with
      | seq its n =>
        have h3 : (decide (c = "tuple") && (decide (its.size ≤ sizeLine) && He.relAll [.int 3, .ref (He.ga K "shows_same")] its.toList)) = true := h2
        rw [Bool.and_eq_true, Bool.and_eq_true] at h3
        exact .inr ⟨_, its, n, q, congrArg Value.type (of_decide_eq_true h3.1), rfl, of_decide_eq_true h3.2.1, He.relAll_ok h3.2.2⟩
      | _ => cases h2
    | _ => cases dt <;> cases h2
theorem rv_notInJ (T : Tx K mg w) (hK : K' = K := by rfl) : RV K r (fun x y H Q => ∃ (z : Str) (r : Option Value), x = .str z ∧ y = .ref (He.ga K "JUDGES") ∧ PySem.W.nsIn K' (He.ga K "JUDGES") z = some r ∧ Q (.bl (!r.isSome)) H)
    (.d (.str (Str.ofString "same"))) (.v (.ref (He.ga K "JUDGES"))) (Is (.d (.bool false))) := fun F H v w o f hv hw Q q => by
  subst hK
  cases hv
  obtain rfl : w = V.ref (He.ga K' "JUDGES") := hw
  exact ⟨_, _, rfl, rfl, (j_at T).1, q _ H _ rfl (Stp.refl o) (Rp.bl _)⟩
theorem rv_jIx (T : Tx K mg w) (hK : K' = K := by rfl) (hw : w' = w := by rfl) : RV K r (rIxD K' w') (.v (.ref (He.ga K "JUDGES"))) (.d (.str (Str.ofString "same"))) (Is (.v (.ref (jAt K)))) := fun F H v w o f hv hw Q q => by
  subst hK
  rename_i e1
  subst e1
  obtain rfl : v = V.ref (He.ga K' "JUDGES") := hv
  cases hw
  obtain ⟨es, n, kd⟩ : ∃ es n, KDict K' w' (He.ga K' "JUDGES") es n := T.c.tab 1
  exact ⟨_, _, .ref (jAt K'), rfl, rfl, ⟨es, n, _, kd.at_, kd.lit, (j_at T).1, rfl⟩, q _ H _ rfl (Stp.refl o) rfl⟩
theorem eg_J (T : Tx K mg w) {vs : List Nat} {i j : Nat} (hi : i ∈ vs) (hj : j ∈ vs) (hK : K' = K := by rfl) : EvG K r (gTup K' 2 (gCons (gName i) (gCons (gName j) gNil))) vs ds (.v (.ref (jAt K))) ((ds.set i (some (.d (.int 3)))).set j (some (.v (.ref (He.ga K "shows_same"))))) := fun F σ H v o f s hv Q q => by
  subst hK
  obtain rfl : v = V.ref (jAt K') := hv
  refine ⟨_, _, rfl, (j_at T).2 H, rfl, ?_⟩
  exact egs_cons (eg_name hi) (egs_cons (eg_name hj) egs_nil) F σ H _ o f s (.cons (d := .d (.int 3)) (Rp.int 3) (.cons (d := .v (.ref (He.ga K' "shows_same"))) rfl .nil)) Q q
theorem ev_callL {α : Type} {i : Nat} {f0 : Addr} {t : TA} {ar : α → List Da} {pre : α → Prop} {res : α → Da} (a : α) (hf : ds[i]? = some (some (.v (.ref f0)))) (ha : EvA K r t ds (IsA (ar a))) (p : pre a) : Ev K r (tCallL i f0 (spP K ar pre res) [] E0 t) ds (Is (res a)) := fun F σ H o f s Q q => by
  obtain ⟨v, e1, e2⟩ := s.at_ i _ hf
  obtain rfl : v = V.ref f0 := e2
  refine ⟨e1, ?_⟩
  refine ha F σ H o f s _ fun vs H2 ws pw s2 rx => ?_
  subst pw
  show spG K _ _ _ (vs ++ []) H2 Q E0
  rw [List.append_nil]
  exact ⟨a, F, r, s2.on, s2.fok f, rx, p, fun v H3 w pw2 s3 r3 => q v H3 w pw2 (s2.trans s3) r3⟩
def sp_accepts (K : PySem.W.Frag) : Sp := spP K (fun a : Row × Row × List PyData => [.d (sameD a.1 a.2.1), .d (.tuple a.2.2)]) (fun a => Ask a.1 a.2.1 a.2.2) fun a => .d (.bool (answer a.1 a.2.1 a.2.2))
-- slots: 0=claim 1=certificate 2=size 3=judge
theorem sc_accepts : FnScope ["claim", "certificate", "size", "judge"] ["claim", "certificate"] (defScope s_accepts) := C8.fnScope_by (by decide +kernel)
theorem c_accepts (T : Tx K mg w) : Cal P w K mg base 8 "accepts" ["claim", "certificate"] (sp_accepts K) := by
  obtain ⟨es, nn, kdJ⟩ : ∃ es n, KDict K w (He.ga K "JUDGES") es n := T.c.tab 1
  obtain ⟨fdj, psj, jF, jK, jBn⟩ := heldOf (c_shows_same T) T.g_shows_same (Nat.le_refl 7)
  refine calG T.e_accepts T.g_accepts sc_accepts (fun _ _ _ _ _ _ us hl => match us, hl with | [_, _], _ => rfl) (fun _ _ => rfl) fun f cdv A outer s H E hr => ?_
  refine ⟨_, (pss_cons (ps_if (PW.pt (pw_or (pt_not (pt_val (pe_callB call_isi (by rfl) T.f_isinstance (by decide +kernel) (pa_cons (pv 0) (pa_cons (pe_bltn (v := .ty "tuple") (by rfl) T.f_tuple (by decide +kernel) rfl) pa_nil))))) (pw_or (pt_cmpR op_eq (pe_callB call_len_seq (by rfl) T.f_len PySem.boot_len (pa_cons (pv 0) pa_nil)) pe_int (nomark _)) (pw_or (pt_not (pt_val (pe_callB call_isi (by rfl) T.f_isinstance (by decide +kernel) (pa_cons (pe_ix ix_tup (pv 0) pe_int (fun _ _ => rfl)) (pa_cons (pe_bltn (v := .ty "str") (by rfl) T.f_str (by decide +kernel) rfl) pa_nil))))) (pw_or1 (pt_cmpR (op_notIn_kd kdJ) (pe_ix ix_tup (pv 0) pe_int (fun _ _ => rfl)) (pe_gc (v := .ref (He.ga K "JUDGES")) (by rfl) ⟨_, T.g_JUDGES, rfl⟩) (by rfl))))))) (pss_cons (ps_ret pe_bl)
    pss_nil) pss_nil)
    (pss_cons (ps_asg (pe_ix ix_kdict (pe_gc (v := .ref (He.ga K "JUDGES")) (by rfl) ⟨_, T.g_JUDGES, rfl⟩) (pe_ix ix_tup (pv 0) pe_int (fun _ _ => rfl)) (fun _ _ => rfl)) (pg_tup rfl (pgs_cons (pg_name (i := 2) sc_accepts.nd rfl (Or.inl rfl)) (pgs_cons (pg_name (i := 3) sc_accepts.nd rfl (Or.inl rfl)) pgs_nil))))
    (pss_cons (ps_ret (pe_and (pe_cmpR op_eq (pe_callB call_len_seq (by rfl) T.f_len PySem.boot_len (pa_cons (pv 0) pa_nil)) (pv 2) (nomark _)) (pe_one (pe_callL (i := 3) jF hr rfl (Or.inl rfl) jK jBn .nil pass0 (pa_cons (pv 0) (pa_cons (pv 1) pa_nil))))))
    pss_nil))), ?_⟩
  intro a r F0 H0 D hp R
  dsimp only [nox_K]
  obtain ⟨a, b, l⟩ := a
  dsimp only at hp ⊢
  rw [show sameD a b = .tuple [.str "same", .tuple (tsD a), .tuple (tsD b)] from rfl]
  refine go_ifF (et_orF ?_ (et_orF ?_ (et_orF ?_ ?_))) (go_skip ?_)
  · apply et_is; walk_at "et"; rfl
  · apply et_is; walk_at "et"; rfl
  · apply et_is; walk_at "et"; rfl
  · refine et_test (ev_op ?_ ?_ (rv_notInJ T))
    · walk_at "ev"
    · walk_at "ev"
  refine go_unp (P := Is (.v (.ref (jAt K)))) (vs := [2, 3]) (ev_op ?_ ?_ (rv_jIx T)) fun w e => ?_
  · walk_at "ev"
  · walk_at "ev"
  subst e
  refine ⟨_, eg_J T (by decide) (by decide), ?_⟩
  refine go_retE R rfl (ev_and (a := true) ?_ fun _ => ev_callL (a, b, l) rfl ?_ hp) ?_
  · apply ev_is
    · walk_at "ev"
    · rfl
  · walk_at "ea"
  · rfl
end
end Kn

set_option Elab.async false
set_option linter.all false
set_option maxRecDepth 100000
set_option maxHeartbeats 4000000
/-! accepts, with its names: for the call by keywords. -/
namespace Kn
open PySem PySem.Spec PyProof.Rows L2
local macro_rules | `(tactic| walk_at "sd") => `(tactic| first | trivial | assumption | walk_at "sz")
local macro_rules | `(tactic| walk_at "sz") => `(tactic| first | assumption | decide | omega | rfl | (simp only [List.length_append, List.length_map, List.length_cons, List.length_nil, List.length_reverse]; omega))
local macro_rules | `(tactic| walk_at "rv") => `(tactic| with_reducible first
  | exact rv_ix0 | exact rv_ix1 | exact rv_ix2 | exact rv_eqI | exact rv_neI | exact rv_eqE | exact rv_neE | exact rv_eqW | exact rv_neW | exact rv_eqS | exact rv_neS
  | exact rv_int0 | exact rv_bl0
  | exact rv_ixT0 | exact rv_ixT1
  | exact rv_ixRT (by assumption) | exact rv_ixRL (by assumption) | (apply rv_ixW; walk_at "sz"; assumption)
  | (refine rv_addW ?_; walk_at "sz")
  | (refine rv_catRT ?_; walk_at "sz") | (refine rv_catRL ?_; walk_at "sz")
  | (refine rv_intC ?_; assumption) | (apply rv_mulW; walk_at "sz"; walk_at "sz"; walk_at "sz")
  | exact rv_inW | exact rv_inSign | exact rv_isN | exact rv_notN | exact rv_notBl
  | exact rv_ixT (by with_unfolding_all rfl) | exact rv_ixL (by with_unfolding_all rfl)
  | exact rv_ixT (by assumption) | exact rv_ixL (by assumption)
  | (refine rv_catA ?_; walk_at "sz") | (refine rv_cat ?_; walk_at "sz"))
local macro_rules | `(tactic| walk_at "rs") => `(tactic| with_reducible first
  | exact rs_rT | exact rs_rL
  | (refine rs_w ?_ ?_; walk_at "sz"; (with_unfolding_all first | exact Nat.zero_le _ | exact HT.sIx_le _ _ (Nat.zero_le _) _ | assumption))
  | exact rs_tup | exact rs_list
  | (refine rs_str ?_; walk_at "sz"))
local macro_rules | `(tactic| walk_at "rc") => `(tactic| with_reducible first
  | exact rc_lenD3 | exact rc_lenRT | exact rc_lenRL | exact rc_lenT | exact rc_lenL | (refine rc_lenW ?_; walk_at "sz") | (refine rc_lenS ?_; walk_at "sz")
  | exact rc_isi (kit_int _) | exact rc_isi (kit_bool _) | exact rc_isi (kit_str _) | exact rc_isi (kit_tup _)
  | exact rc_max | exact rc_min | exact rc_int | exact rc_abs | exact rc_all | exact rc_tupL | exact rc_tupT | exact rc_list | exact rc_listT | (refine rc_listW ?_; walk_at "sz"))
local macro_rules | `(tactic| walk_at "rm") => `(tactic| first | (with_reducible apply rm_lowW; assumption; walk_at "sz") | (with_reducible apply rm_upW; assumption; walk_at "sz"))
local macro_rules | `(tactic| walk_at "ea") => `(tactic| first
  | with_reducible exact ea_nil
  | ((with_reducible apply ea_cons); walk_at "ev"; walk_at "ea"))
local macro_rules | `(tactic| walk_at "eo") => `(tactic| first
  | with_reducible exact eo_none
  | ((with_reducible apply eo_some); walk_at "ev"))
local macro_rules | `(tactic| walk_at "et") => `(tactic| first
  | ((with_reducible apply et_test); walk_at "ev")
  | ((with_reducible apply et_B); walk_at "ev")
  | ((with_reducible apply et_not); walk_at "et")
  | ((with_reducible apply et_and); walk_at "et"; intro _; walk_at "et")
  | ((with_reducible apply et_or); walk_at "et"; intro _; walk_at "et"))
local macro_rules | `(tactic| walk_at "ev") => `(tactic| first
  | with_reducible exact ev_int | with_reducible exact ev_str | with_reducible exact ev_bl | with_reducible exact ev_non | with_reducible exact ev_val
  | ((with_reducible apply ev_var); exact rfl)
  | ((with_reducible apply ev_op); walk_at "ev"; walk_at "ev"; walk_at "rv")
  | ((with_reducible apply ev_un); walk_at "ev"; exact ru_neg)
  | ((with_reducible apply ev_and); walk_at "ev"; intro _; walk_at "ev")
  | ((with_reducible apply ev_or); walk_at "ev"; intro _; walk_at "ev")
  | ((with_reducible apply ev_not); walk_at "ev")
  | ((with_reducible apply ev_sl); walk_at "ev"; walk_at "eo"; walk_at "eo"; walk_at "rs")
  | ((with_reducible apply ev_chain); walk_at "ev"; walk_at "ev"; walk_at "rv"; (intro _; walk_at "ev"); (intro _; walk_at "rv"))
  | walk_at "ec"
  | ((with_reducible apply ev_if); walk_at "et"; (intro _; walk_at "ev"); (intro _; walk_at "ev"))
  | ((with_reducible apply ev_m0); walk_at "ev"; walk_at "rm")
  | ((with_reducible apply ev_cb); walk_at "ea"; walk_at "rc")
  | ((with_reducible apply ev_tD); walk_at "ea")
  | with_reducible exact ev_rT0 | with_reducible exact ev_rL0
  | ((with_reducible apply ev_rT1); walk_at "ea") | ((with_reducible apply ev_rT2); walk_at "ea") | ((with_reducible apply ev_rT3); walk_at "ea")
  | ((with_reducible apply ev_rL1); walk_at "ea") | ((with_reducible apply ev_rL2); walk_at "ea") | ((with_reducible apply ev_rL3); walk_at "ea") | ((with_reducible apply ev_rL4); walk_at "ea")
  | ((with_reducible apply ev_revW); walk_at "ev"; walk_at "sz")
  | ((with_reducible apply ev_revL); walk_at "ev")
  | ((with_reducible apply ev_revT); walk_at "ev"))
local macro_rules | `(tactic| walk_at "ret") => `(tactic| (apply go_retE; assumption; exact rfl; walk_at "ev"))
local macro_rules | `(tactic| walk_at "if") => `(tactic| (apply go_if; walk_at "et"))
local macro_rules | `(tactic| walk_at "set") => `(tactic| (apply go_set; walk_at "ev"))
local macro_rules | `(tactic| walk_at "eg") => `(tactic| first | exact eg_name (by decide) | exact eg_tD (by decide) (by decide) (by decide))
theorem calGK {P : Program} {w : World} {K : PySem.W.Frag} {mg : Str → Option Value} {base : Heap} {x : Str} {st : Stmt} {N ps : List Str} {k : Nat} {α : Type} {ar : α → Res → List Da} {pre : α → Res → Prop} {post : α → Da → Prop} (F : ∃ fd, FunD K x x (defArgs st) (defBody st) (defScope st) [] [] (He.ga K x) fd) (S : FnScope N ps (defScope st)) (hlen : ∀ a r, (ar a r).length = ps.length)
    (hbody : ∀ (f : Addr) (cdv : Value) (A : Around) (outer : List Env) (s : Shared) (H : Hp) (E : XK), Room k (A.deeper (envOfC x (defScope st) s.heap.objs.size f cdv)) →
      ∃ t, PSs (cxOf CX0 P w K mg base N x (defScope st) f cdv A outer s H E).nox (defBody st) t ∧ ∀ (a : α) (r : Res) (F0 : List Addr) (H0 : Hp) (D : Ends), pre a r → Rt ⟨K, F0, r, H0, post a⟩ D → Go ⟨K, F0, r, H0, post a⟩ none (startD N.length (ar a r)) t D) :
    ∃ fd, FunD K x x (defArgs st) (defBody st) (defScope st) [] [] (He.ga K x) fd ∧ FnOk P w K mg base CX0 (k + 1) (He.ga K x) fd ps (spG K ar pre post) := by
  obtain ⟨fd, F⟩ := F
  exact ⟨fd, F, okG F S hlen (fun cdv A outer s H E hr => hbody _ cdv A outer s H E hr)⟩
def gK {α : Type} (us ws : List α) : List α := match us, ws with
  | [], [c, d] => [d, c]
  | _, _ => []
theorem gK_rel {vs : List V} {us : List Value} {zs : List V} {ws : List Value} (r : Vals vs us) (rz : Vals zs ws) : Vals (gK vs zs) (gK us ws) := by
  cases r with
  | nil =>
    cases rz with
    | nil => exact .nil
    | cons a t =>
      cases t with
      | nil => exact .nil
      | cons b t =>
        cases t with
        | nil => exact .cons b (.cons a .nil)
        | cons c t => exact .nil
  | cons a t => exact .nil
theorem acc_kb {K : PySem.W.Frag} {f : Addr} {fd : FuncData} (F : FunD K "accepts" "accepts" (defArgs s_accepts) (defBody s_accepts) (defScope s_accepts) [] [] f fd) : KBinds K fd ["claim", "certificate"] ["certificate", "claim"] gK gK := by
  obtain ⟨oc, od, dV, kV, doc, pm, an, cdv, ct, osl, rfl, lk, hcd, hD, hK⟩ := F.ex
  rcases hD with ⟨_, rfl⟩ | ⟨e, _⟩
  · refine ⟨fun s us ws _ hl => ?_, gK_rel⟩
    match us, ws, hl with
    | [], [c, d], _ => exact .of_eq rfl
  · exact absurd rfl e
namespace K2
section
variable {P : Program} {w w' : World} {K K' : PySem.W.Frag} {mg : Str → Option Value} {base : Heap} {r : Res} {ds : Sl} {ta : TA}
-- slots: 0=claim 1=certificate 2=size 3=judge
theorem sc_accepts : FnScope ["claim", "certificate", "size", "judge"] ["claim", "certificate"] (defScope s_accepts) := C8.fnScope_by (by decide +kernel)
theorem k_accepts (T : Tx K mg w) : ∃ fd, FunD K "accepts" "accepts" (defArgs s_accepts) (defBody s_accepts) (defScope s_accepts) [] [] (He.ga K "accepts") fd ∧ FnOk P w K mg base CX0 8 (He.ga K "accepts") fd ["claim", "certificate"] (sp_accepts K) := by
  obtain ⟨es, nn, kdJ⟩ : ∃ es n, KDict K w (He.ga K "JUDGES") es n := T.c.tab 1
  obtain ⟨fdj, psj, jF, jK, jBn⟩ := heldOf (c_shows_same T) T.g_shows_same (Nat.le_refl 7)
  refine calGK T.e_accepts sc_accepts (fun _ _ => rfl) fun f cdv A outer s H E hr => ?_
  refine ⟨_, (pss_cons (ps_if (PW.pt (pw_or (pt_not (pt_val (pe_callB call_isi (by rfl) T.f_isinstance (by decide +kernel) (pa_cons (pv 0) (pa_cons (pe_bltn (v := .ty "tuple") (by rfl) T.f_tuple (by decide +kernel) rfl) pa_nil))))) (pw_or (pt_cmpR op_eq (pe_callB call_len_seq (by rfl) T.f_len PySem.boot_len (pa_cons (pv 0) pa_nil)) pe_int (nomark _)) (pw_or (pt_not (pt_val (pe_callB call_isi (by rfl) T.f_isinstance (by decide +kernel) (pa_cons (pe_ix ix_tup (pv 0) pe_int (fun _ _ => rfl)) (pa_cons (pe_bltn (v := .ty "str") (by rfl) T.f_str (by decide +kernel) rfl) pa_nil))))) (pw_or1 (pt_cmpR (op_notIn_kd kdJ) (pe_ix ix_tup (pv 0) pe_int (fun _ _ => rfl)) (pe_gc (v := .ref (He.ga K "JUDGES")) (by rfl) ⟨_, T.g_JUDGES, rfl⟩) (by rfl))))))) (pss_cons (ps_ret pe_bl)
    pss_nil) pss_nil)
    (pss_cons (ps_asg (pe_ix ix_kdict (pe_gc (v := .ref (He.ga K "JUDGES")) (by rfl) ⟨_, T.g_JUDGES, rfl⟩) (pe_ix ix_tup (pv 0) pe_int (fun _ _ => rfl)) (fun _ _ => rfl)) (pg_tup rfl (pgs_cons (pg_name (i := 2) sc_accepts.nd rfl (Or.inl rfl)) (pgs_cons (pg_name (i := 3) sc_accepts.nd rfl (Or.inl rfl)) pgs_nil))))
    (pss_cons (ps_ret (pe_and (pe_cmpR op_eq (pe_callB call_len_seq (by rfl) T.f_len PySem.boot_len (pa_cons (pv 0) pa_nil)) (pv 2) (nomark _)) (pe_one (pe_callL (i := 3) jF hr rfl (Or.inl rfl) jK jBn .nil pass0 (pa_cons (pv 0) (pa_cons (pv 1) pa_nil))))))
    pss_nil))), ?_⟩
  intro a r F0 H0 D hp R
  dsimp only [nox_K]
  obtain ⟨a, b, l⟩ := a
  dsimp only at hp ⊢
  rw [show sameD a b = .tuple [.str "same", .tuple (tsD a), .tuple (tsD b)] from rfl]
  refine go_ifF (et_orF ?_ (et_orF ?_ (et_orF ?_ ?_))) (go_skip ?_)
  · apply et_is; walk_at "et"; rfl
  · apply et_is; walk_at "et"; rfl
  · apply et_is; walk_at "et"; rfl
  · refine et_test (ev_op ?_ ?_ (rv_notInJ T))
    · walk_at "ev"
    · walk_at "ev"
  refine go_unp (P := Is (.v (.ref (jAt K)))) (vs := [2, 3]) (ev_op ?_ ?_ (rv_jIx T)) fun w e => ?_
  · walk_at "ev"
  · walk_at "ev"
  subst e
  refine ⟨_, eg_J T (by decide) (by decide), ?_⟩
  refine go_retE R rfl (ev_and (a := true) ?_ fun _ => ev_callL (a, b, l) rfl ?_ hp) ?_
  · apply ev_is
    · walk_at "ev"
    · rfl
  · walk_at "ea"
  · rfl
end
end K2
end Kn

set_option Elab.async false
set_option linter.all false
set_option maxRecDepth 100000
set_option maxHeartbeats 4000000
/-! The law's own steps. -/
namespace Kn
open PySem PySem.Spec PyProof.Rows L2
local macro_rules | `(tactic| walk_at "sd") => `(tactic| first | trivial | assumption | walk_at "sz")
local macro_rules | `(tactic| walk_at "sz") => `(tactic| first | assumption | decide | omega | rfl | (simp only [List.length_append, List.length_map, List.length_cons, List.length_nil, List.length_reverse]; omega))
local macro_rules | `(tactic| walk_at "rv") => `(tactic| with_reducible first
  | exact rv_ix0 | exact rv_ix1 | exact rv_ix2 | exact rv_eqI | exact rv_neI | exact rv_eqE | exact rv_neE | exact rv_eqW | exact rv_neW | exact rv_eqS | exact rv_neS
  | exact rv_int0 | exact rv_bl0
  | exact rv_ixT0 | exact rv_ixT1
  | exact rv_ixRT (by assumption) | exact rv_ixRL (by assumption) | (apply rv_ixW; walk_at "sz"; assumption)
  | (refine rv_addW ?_; walk_at "sz")
  | (refine rv_catRT ?_; walk_at "sz") | (refine rv_catRL ?_; walk_at "sz")
  | (refine rv_intC ?_; assumption) | (apply rv_mulW; walk_at "sz"; walk_at "sz"; walk_at "sz")
  | exact rv_inW | exact rv_inSign | exact rv_isN | exact rv_notN | exact rv_notBl
  | exact rv_ixT (by with_unfolding_all rfl) | exact rv_ixL (by with_unfolding_all rfl)
  | exact rv_ixT (by assumption) | exact rv_ixL (by assumption)
  | (refine rv_catA ?_; walk_at "sz") | (refine rv_cat ?_; walk_at "sz"))
local macro_rules | `(tactic| walk_at "rs") => `(tactic| with_reducible first
  | exact rs_rT | exact rs_rL
  | (refine rs_w ?_ ?_; walk_at "sz"; (with_unfolding_all first | exact Nat.zero_le _ | exact HT.sIx_le _ _ (Nat.zero_le _) _ | assumption))
  | exact rs_tup | exact rs_list
  | (refine rs_str ?_; walk_at "sz"))
local macro_rules | `(tactic| walk_at "rc") => `(tactic| with_reducible first
  | exact rc_lenD3 | exact rc_lenRT | exact rc_lenRL | exact rc_lenT | exact rc_lenL | (refine rc_lenW ?_; walk_at "sz") | (refine rc_lenS ?_; walk_at "sz")
  | exact rc_isi (kit_int _) | exact rc_isi (kit_bool _) | exact rc_isi (kit_str _) | exact rc_isi (kit_tup _)
  | exact rc_max | exact rc_min | exact rc_int | exact rc_abs | exact rc_all | exact rc_tupL | exact rc_tupT | exact rc_list | exact rc_listT | (refine rc_listW ?_; walk_at "sz"))
local macro_rules | `(tactic| walk_at "rm") => `(tactic| first | (with_reducible apply rm_lowW; assumption; walk_at "sz") | (with_reducible apply rm_upW; assumption; walk_at "sz"))
local macro_rules | `(tactic| walk_at "ea") => `(tactic| first
  | with_reducible exact ea_nil
  | ((with_reducible apply ea_cons); walk_at "ev"; walk_at "ea"))
local macro_rules | `(tactic| walk_at "eo") => `(tactic| first
  | with_reducible exact eo_none
  | ((with_reducible apply eo_some); walk_at "ev"))
local macro_rules | `(tactic| walk_at "et") => `(tactic| first
  | ((with_reducible apply et_test); walk_at "ev")
  | ((with_reducible apply et_B); walk_at "ev")
  | ((with_reducible apply et_not); walk_at "et")
  | ((with_reducible apply et_and); walk_at "et"; intro _; walk_at "et")
  | ((with_reducible apply et_or); walk_at "et"; intro _; walk_at "et"))
local macro_rules | `(tactic| walk_at "ev") => `(tactic| first
  | with_reducible exact ev_int | with_reducible exact ev_str | with_reducible exact ev_bl | with_reducible exact ev_non | with_reducible exact ev_val
  | ((with_reducible apply ev_var); exact rfl)
  | ((with_reducible apply ev_op); walk_at "ev"; walk_at "ev"; walk_at "rv")
  | ((with_reducible apply ev_un); walk_at "ev"; exact ru_neg)
  | ((with_reducible apply ev_and); walk_at "ev"; intro _; walk_at "ev")
  | ((with_reducible apply ev_or); walk_at "ev"; intro _; walk_at "ev")
  | ((with_reducible apply ev_not); walk_at "ev")
  | ((with_reducible apply ev_sl); walk_at "ev"; walk_at "eo"; walk_at "eo"; walk_at "rs")
  | ((with_reducible apply ev_chain); walk_at "ev"; walk_at "ev"; walk_at "rv"; (intro _; walk_at "ev"); (intro _; walk_at "rv"))
  | walk_at "ec"
  | ((with_reducible apply ev_if); walk_at "et"; (intro _; walk_at "ev"); (intro _; walk_at "ev"))
  | ((with_reducible apply ev_m0); walk_at "ev"; walk_at "rm")
  | ((with_reducible apply ev_cb); walk_at "ea"; walk_at "rc")
  | ((with_reducible apply ev_tD); walk_at "ea")
  | with_reducible exact ev_rT0 | with_reducible exact ev_rL0
  | ((with_reducible apply ev_rT1); walk_at "ea") | ((with_reducible apply ev_rT2); walk_at "ea") | ((with_reducible apply ev_rT3); walk_at "ea")
  | ((with_reducible apply ev_rL1); walk_at "ea") | ((with_reducible apply ev_rL2); walk_at "ea") | ((with_reducible apply ev_rL3); walk_at "ea") | ((with_reducible apply ev_rL4); walk_at "ea")
  | ((with_reducible apply ev_revW); walk_at "ev"; walk_at "sz")
  | ((with_reducible apply ev_revL); walk_at "ev")
  | ((with_reducible apply ev_revT); walk_at "ev"))
local macro_rules | `(tactic| walk_at "ret") => `(tactic| (apply go_retE; assumption; exact rfl; walk_at "ev"))
local macro_rules | `(tactic| walk_at "if") => `(tactic| (apply go_if; walk_at "et"))
local macro_rules | `(tactic| walk_at "set") => `(tactic| (apply go_set; walk_at "ev"))
local macro_rules | `(tactic| walk_at "eg") => `(tactic| first | exact eg_name (by decide) | exact eg_tD (by decide) (by decide) (by decide))
section
variable {P : Program} {w w' : World} {K K' : PySem.W.Frag} {mg : Str → Option Value} {base : Heap} {r : Res} {ds : Sl} {ta : TA}
theorem low_eq : (Str.ofString "abcdef").cps.toList = [97, 98, 99, 100, 101, 102] := by decide +kernel
def sp_law_back_word (K : PySem.W.Frag) : Sp := spP K (fun w : Wd => [.d (.str (S w))]) (fun w => LW w ∧ w.length ≤ 100000) fun w => .d (.str (S (und w)))
-- slots: 0=_law_strand 1=_law_sign
theorem sc_law_back_word : FnScope ["_law_strand", "_law_sign"] ["_law_strand"] (defScope s_law_back_word) := C8.fnScope_by (by decide +kernel)
theorem c_law_back_word (T : Tx K mg w) : Cal P w K mg base 1 "_law_back_word" ["_law_strand"] (sp_law_back_word K) := by
  refine calG T.e_law_back_word T.g_law_back_word sc_law_back_word (fun _ _ _ _ _ _ us hl => match us, hl with | [_], _ => rfl) (fun _ _ => rfl) fun f cdv A outer s H E hr => ?_
  refine ⟨_, (pss_cons (ps_ret (pe_join pe_str (pe_lc (te := (tIf (tTest (tOp _ (tVar 1) _)) (tM0 _ (tVar 1)) (tM0 _ (tVar 1)))) (own := [("_law_sign", 1)]) (g := (gName 1)) (tt := tYes) rfl sc_law_back_word.nd (pi_str (pe_revS (pv 0))) (blkOk_by (own := [("_law_sign", 1)]) (N := ["_law_strand", "_law_sign"]) (sc := defScope s_law_back_word) (by decide +kernel)) (fun _ _ _ _ _ => (pg_name (i := 1) sc_law_back_word.nd rfl (Or.inl rfl))) (fun _ _ _ _ _ => pts_nil) (fun _ _ _ _ _ => (pe_ifExp (pt_cmpR op_in_sign (pv 1) pe_str (by rfl)) (pe_upper (pv 1)) (pe_lower (pv 1)))))))
    pss_nil), ?_⟩
  intro a r F0 H0 D hp R
  dsimp only [nox_K]
  obtain ⟨hw, hl⟩ := hp
  refine go_retI R (w := .d (.str (S (und a)))) (evn_m1 ev_str (ev_lcmap (ds' := fun c => [some (.d (.str (S a))), some (.d (.str ⟨#[c]⟩))]) (fd := fun c => .str (S [flp c])) a.reverse (ei_w (ev_revW (ev_var rfl) hl)) (by rw [List.length_reverse]; exact hl) (fun c _ => eg_name (by decide)) fun c hc => ?_) fun w e => ?_) rfl
  · have hc' := lw1 (hw c (List.mem_reverse.mp hc))
    refine evn_if (et_test (ev_op (ev_var rfl) ev_str rv_inSign)) (fun e => ?_) fun e => ?_
    · have e' := of_decide_eq_true e.symm
      rw [low_eq] at e'
      refine (ev_m0 (ev_var rfl) (rm_upW hc' (by simp))).imp fun w ew => ?_
      rw [ew, List.map_singleton, flp_up' c (hw c (List.mem_reverse.mp hc)) e']
    · have e' := of_decide_eq_false e.symm
      rw [low_eq] at e'
      refine (ev_m0 (ev_var rfl) (rm_lowW hc' (by simp))).imp fun w ew => ?_
      rw [ew, List.map_singleton, flp_lo' c (hw c (List.mem_reverse.mp hc)) e']
  · subst e
    have z := rm_join (K := K) (r := r) (x := S []) (zs := a.reverse.map fun c => S [flp c]) (by rw [sum_ones _ (by intro z hz; obtain ⟨c, _, rfl⟩ := List.mem_map.mp hz; rfl), List.length_map, List.length_reverse]; show _ + _ * 0 ≤ _; omega)
    rw [join_w] at z
    rw [List.map_map] at z
    exact z
theorem ec_law_back_word {x : Wd} (h : EvA K r ta ds (IsA [.d (.str (S x))])) (h1 : LW x) (h2 : x.length ≤ 100000) : Ev K r (tCall (sp_law_back_word K) [] E0 ta) ds (Is (.d (.str (S (und x))))) := ev_call x h rfl ⟨h1, h2⟩
def sp_law_meet (K : PySem.W.Frag) : Sp := spP K (fun p : Nat × Nat => [.d (.str (S [p.1])), .d (.str (S [p.2]))]) (fun p => p.1 ∈ Lt ∧ p.2 ∈ Lt) fun p => .d (.bool (meets p.1 p.2))
-- slots: 0=_law_first 1=_law_last
theorem sc_law_meet : FnScope ["_law_first", "_law_last"] ["_law_first", "_law_last"] (defScope s_law_meet) := C8.fnScope_by (by decide +kernel)
theorem c_law_meet (T : Tx K mg w) : Cal P w K mg base 1 "_law_meet" ["_law_first", "_law_last"] (sp_law_meet K) := by
  refine calG T.e_law_meet T.g_law_meet sc_law_meet (fun _ _ _ _ _ _ us hl => match us, hl with | [_, _], _ => rfl) (fun _ _ => rfl) fun f cdv A outer s H E hr => ?_
  refine ⟨_, (pss_cons (ps_ret (pe_and (pe_cmpR op_ne (pv 0) (pv 1) (nomark _)) (pe_one (pe_cmpR op_eq (pe_lower (pv 0)) (pe_lower (pv 1)) (nomark _)))))
    pss_nil), ?_⟩
  intro a r F0 H0 D hp R
  dsimp only [nox_K]
  have l1 := lw1 hp.1
  have l2 := lw1 hp.2
  walk_at "ret"
  rw [meets_eq]
theorem ec_law_meet {x y : Nat} (h : EvA K r ta ds (IsA [.d (.str (S [x])), .d (.str (S [y]))])) (h1 : x ∈ Lt) (h2 : y ∈ Lt) : Ev K r (tCall (sp_law_meet K) [] E0 ta) ds (Is (.d (.bool (meets x y)))) := ev_call (x, y) h rfl ⟨h1, h2⟩
local macro_rules | `(tactic| walk_at "ec") => `(tactic| first | ((with_reducible apply ec_law_back_word); walk_at "ea"; walk_at "sd"; walk_at "sd") | ((with_reducible apply ec_law_meet); walk_at "ea"; walk_at "sd"; walk_at "sd"))
theorem go_unpD {B : Bs} {o : Ow} {ds : Sl} {te : TE} {u : TS} {D : Ends} {t : Tr} {i j l : Nat} {K' : PySem.W.Frag} (h : Ev B.K B.r te ds (Is (.d (tD t)))) (k : Go B o (((ds.set i (some (.d (.str (S t.1))))).set j (some (.d (.int t.2.1)))).set l (some (.d (.int t.2.2)))) u D) (hK : K' = B.K := by rfl) :
    Go B o ds (tSeq (tAsg te (gTup K' 3 (gCons (gName i) (gCons (gName j) (gCons (gName l) gNil))))) u) D :=
  go_unp (vs := [i, j, l]) h fun w e => by subst e; exact ⟨_, eg_tD (by simp) (by simp) (by simp) hK, k⟩
def SizeOk (z : Int) : Prop := z.natAbs.log2 < 9000
theorem optL_if {c : Bool} {x : Row} : (if c = true then Da.d (.list (tsD x)) else Da.d .none) = .d (optL (if c = true then some x else none)) := by cases c <;> rfl
structure InW (k : Kd) (t : Tr) (z : Int) : Prop where
  k : k = .undo ∨ k = .opn ∨ k = .root
  ok : okW t
  z : SizeOk z
def sp_law_in_word (K : PySem.W.Frag) : Sp := spP K (fun a : Kd × Tr × Int => [.d (.str a.1.name), .d (tD a.2.1), .d (.int a.2.2)]) (fun a => InW a.1 a.2.1 a.2.2) fun a => .d (optL (act ⟨a.1, 0, a.2.2, 0⟩ a.2.1 a.2.1))
-- slots: 0=_law_kind 1=_law_here 2=_law_size 3=_law_strand 4=_law_by 5=_law_over 6=_law_last 7=_law_part_here
theorem sc_law_in_word : FnScope ["_law_kind", "_law_here", "_law_size", "_law_strand", "_law_by", "_law_over", "_law_last", "_law_part_here"] ["_law_kind", "_law_here", "_law_size"] (defScope s_law_in_word) := C8.fnScope_by (by decide +kernel)
theorem c_law_in_word (T : Tx K mg w) : Cal P w K mg base 2 "_law_in_word" ["_law_kind", "_law_here", "_law_size"] (sp_law_in_word K) := by
  refine calG T.e_law_in_word T.g_law_in_word sc_law_in_word (fun _ _ _ _ _ _ us hl => match us, hl with | [_, _, _], _ => rfl) (fun _ _ => rfl) fun f cdv A outer s H E hr => ?_
  refine ⟨_, (pss_cons (ps_asg (pv 1) (pg_tup rfl (pgs_cons (pg_name (i := 3) sc_law_in_word.nd rfl (Or.inl rfl)) (pgs_cons (pg_name (i := 4) sc_law_in_word.nd rfl (Or.inl rfl)) (pgs_cons (pg_name (i := 5) sc_law_in_word.nd rfl (Or.inl rfl)) pgs_nil)))))
    (pss_cons (ps_set (i := 6) sc_law_in_word.nd rfl (Or.inl rfl) (pe_op op_sub (pe_callB call_len_str (by rfl) T.f_len PySem.boot_len (pa_cons (pv 3) pa_nil)) (pv 2)))
    (pss_cons (ps_if (pt_cmpR op_eq (pv 0) pe_str (nomark _)) (pss_cons (ps_if (PW.pt (pw_or (pt_not (pt_chain op_le op_lt pe_int (pv 2) (pe_op op_sub (pe_callB call_len_str (by rfl) T.f_len PySem.boot_len (pa_cons (pv 3) pa_nil)) pe_int))) (pw_or1 (pt_not (pt_val (pe_c (c_law_meet T) hr (by decide) (by rfl) (pa_cons (pe_ix ix_str (pv 3) (pv 2) (fun _ _ => rfl)) (pa_cons (pe_ix ix_str (pv 3) (pe_op op_add (pv 2) pe_int) (fun _ _ => rfl)) pa_nil)))))))) (pss_cons (ps_ret pe_non)
    pss_nil) pss_nil)
    (pss_cons (ps_ret (pe_lst (pa_cons (pe_tup (pa_cons (pe_op op_add_str (pe_slice C8.sl_txt (pv 3) po_none (po_some (pv 2))) (pe_slice C8.sl_txt (pv 3) (po_some (pe_op op_add (pv 2) pe_int)) po_none)) (pa_cons (pv 4) (pa_cons (pv 5) pa_nil)))) pa_nil)))
    pss_nil)) pss_nil)
    (pss_cons (ps_if (pt_cmpR op_eq (pv 0) pe_str (nomark _)) (pss_cons (ps_if (PW.pt (pw_or (pt_cmpR op_lt (pv 2) pe_int (nomark _)) (pw_or (pt_cmpR op_ge (pe_op op_mul pe_int (pv 2)) (pe_callB call_len_str (by rfl) T.f_len PySem.boot_len (pa_cons (pv 3) pa_nil)) (nomark _)) (pw_or1 (pt_cmpR op_ne (pe_c (c_law_back_word T) hr (by decide) (by rfl) (pa_cons (pe_slice C8.sl_txt (pv 3) po_none (po_some (pv 2))) pa_nil)) (pe_slice C8.sl_txt (pv 3) (po_some (pv 6)) po_none) (nomark _)))))) (pss_cons (ps_ret pe_non)
    pss_nil) pss_nil)
    (pss_cons (ps_ret (pe_lst (pa_cons (pe_tup (pa_cons (pe_slice C8.sl_txt (pv 3) po_none (po_some (pv 2))) (pa_cons pe_int (pa_cons pe_int pa_nil)))) (pa_cons (pe_tup (pa_cons (pe_slice C8.sl_txt (pv 3) (po_some (pv 2)) (po_some (pv 6))) (pa_cons (pv 4) (pa_cons (pv 5) pa_nil)))) (pa_cons (pe_tup (pa_cons (pe_slice C8.sl_txt (pv 3) (po_some (pv 6)) po_none) (pa_cons pe_int (pa_cons pe_int pa_nil)))) pa_nil)))))
    pss_nil)) pss_nil)
    (pss_cons (ps_set (i := 7) sc_law_in_word.nd rfl (Or.inl rfl) (pe_ifExp (pt_cmpR op_gt (pv 2) pe_int (nomark _)) (pe_slice C8.sl_txt (pv 3) po_none (po_some (pe_op op_fdivW (pe_callB call_len_str (by rfl) T.f_len PySem.boot_len (pa_cons (pv 3) pa_nil)) (pv 2)))) pe_str))
    (pss_cons (ps_ret (pe_ifExp (PW.pt (pw_and (pt_cmpR op_ne (pv 7) pe_str (nomark _)) (pw_and1 (pt_cmpR op_eq (pe_op op_mulS (pv 7) (pv 2)) (pv 3) (nomark _))))) (pe_lst (pa_cons (pe_tup (pa_cons (pv 7) (pa_cons (pe_op op_mul (pv 4) (pv 2)) (pa_cons (pe_op op_mul (pv 5) (pv 2)) pa_nil)))) pa_nil)) pe_non))
    pss_nil)))))), ?_⟩
  intro a r F0 H0 D hp R
  dsimp only [nox_K]
  obtain ⟨k, ⟨w0, p, q⟩, z⟩ := a
  obtain ⟨hk, ⟨hw, hl⟩, hz⟩ := hp
  dsimp only at hk hw hl hz ⊢
  apply go_unpD (ev_var rfl)
  dsimp only
  walk_at "set"
  have l1 := cutG_len w0 none (some z)
  have hc : LW (cutG w0 none (some z)) := hw.cut
  rcases hk with rfl | rfl | rfl
  · -- undo
    refine go_ifT ?_ ?_
    · apply et_is; walk_at "et"; decide +kernel
    apply go_if (b := !(decide (0 ≤ z) && decide (z < (w0.length : Int) - 1)) || !meetAt w0 z)
    · apply et_or
      · walk_at "et"
      · intro e
        rw [Bool.not_eq_false', Bool.and_eq_true] at e
        have e1 := of_decide_eq_true e.1
        have e2 := of_decide_eq_true e.2
        obtain ⟨x, hx, _, mx⟩ := atI_ex (l := w0) e1 (by omega)
        obtain ⟨y, hy, _, my⟩ := atI_ex (l := w0) (i := z + 1) (by omega) (by omega)
        have lx := hw x mx
        have ly := hw y my
        have em : meetAt w0 z = meets x y := by
          unfold meetAt
          rw [hx, hy]
        rw [em]
        walk_at "et"
    · intro e
      walk_at "ret"
      show _ = Da.d (optL (aUndo (w0, p, q) z))
      unfold aUndo
      rw [if_pos e]
      rfl
    · intro e
      apply go_skip
      have l2 := cutG_len w0 (some (z + 2)) none
      walk_at "ret"
      show _ = Da.d (optL (aUndo (w0, p, q) z))
      unfold aUndo
      rw [if_neg (b_ff e)]
      rfl
  · -- open
    refine go_ifF ?_ (go_skip (go_ifT ?_ ?_))
    · apply et_is; walk_at "et"; decide +kernel
    · apply et_is; walk_at "et"; decide +kernel
    have c2 : CMul 2 z := .inl ⟨by decide, by decide⟩
    have eb : (decide (z < 1) || (decide ((w0.length : Int) ≤ 2 * z) || !(und (cutG w0 none (some z)) == cutG w0 (some ((w0.length : Int) - z)) none))) = (!decide (0 < z) || (decide ((w0.length : Int) ≤ 2 * z) || !(und (cutG w0 none (some z)) == cutG w0 (some ((w0.length : Int) - z)) none))) := by
      have : decide (z < 1) = !decide (0 < z) := by
        by_cases h : 0 < z
        · rw [decide_eq_true h, decide_eq_false (by omega)]; rfl
        · rw [decide_eq_false h, decide_eq_true (by omega)]; rfl
      rw [this]
    walk_at "if"
    · intro e
      walk_at "ret"
      show _ = Da.d (optL (aOpen (w0, p, q) z))
      unfold aOpen
      rw [if_pos (by rw [← eb]; exact e)]
      rfl
    · intro e
      apply go_skip
      have e' := e
      rw [Bool.or_eq_false_iff, Bool.or_eq_false_iff, Bool.not_eq_false'] at e'
      have e1 := of_decide_eq_false e'.1
      have e2 := of_decide_eq_false e'.2.1
      have e3 := eq_of_beq e'.2.2
      have l2 : HT.sIx w0.length 0 (some z) ≤ HT.sIx w0.length w0.length (some ((w0.length : Int) - z)) := by
        unfold HT.sIx
        dsimp only
        rw [if_neg (by omega), if_neg (by omega)]
        omega
      walk_at "ret"
      show _ = Da.d (optL (aOpen (w0, p, q) z))
      unfold aOpen
      rw [if_neg (by rw [← eb]; exact b_ff e)]
      dsimp only
      rw [e3]
      rfl
  · -- root
    refine go_ifF ?_ (go_skip (go_ifF ?_ (go_skip ?_)))
    · apply et_is; walk_at "et"; decide +kernel
    · apply et_is; walk_at "et"; decide +kernel
    by_cases h1 : 1 < z
    · have cd : CDivW (w0.length : Int) z := ⟨by omega, hz⟩
      have hq : 0 ≤ (w0.length : Int) / z := Int.ediv_nonneg (by omega) (by omega)
      obtain ⟨n, hn⟩ : ∃ n : Nat, (w0.length : Int) / z = n := ⟨((w0.length : Int) / z).toNat, by omega⟩
      have hmul : (n : Int) * z ≤ w0.length := by rw [← hn]; exact Int.ediv_mul_le _ (by omega)
      have hle : cutG w0 none (some ((w0.length : Int) / z)) = w0.take n := by rw [hn, cutG_take]
      have hnl : n ≤ w0.length := by
        have : (n : Int) * 1 ≤ (n : Int) * z := Int.mul_le_mul_of_nonneg_left (by omega) (by omega)
        omega
      apply go_set (w := .d (.str (S (w0.take n))))
      · rw [← hle]
        refine evn_if (Pb := IsB true) ?_ (fun _ => ?_) fun z => nomatch z
        · apply et_is
          · walk_at "et"
          · exact decide_eq_true h1
        · walk_at "ev"
      -- the list or nothing
      apply go_retE R rfl
      · apply ev_if (a := !(w0.take n == []) && (repW (w0.take n) z.toNat == w0))
        · apply et_and
          · walk_at "et"
          · intro e
            have hne : w0.take n ≠ [] := fun h => by rw [h] at e; cases e
            have hn1 : 1 ≤ n := by
              rcases Nat.eq_zero_or_pos n with h | h
              · rw [h] at hne; exact absurd rfl hne
              · exact h
            have hzl : z ≤ w0.length := by
              have : 1 * z ≤ (n : Int) * z := Int.mul_le_mul_of_nonneg_right (by omega) (by omega)
              omega
            have hz1 : 1 ≤ z := by omega
            have hz2 : z ≤ 100000 := by omega
            have hp1 : (w0.take n).length * z.toNat ≤ 100000 := by
              rw [List.length_take, Nat.min_eq_left hnl]
              have : ((n * z.toNat : Nat) : Int) ≤ w0.length := by
                rw [Int.natCast_mul, Int.toNat_of_nonneg (by omega)]
                exact hmul
              omega
            walk_at "et"
        · intro e
          rw [Bool.and_eq_true] at e
          have hne : w0.take n ≠ [] := fun h => by rw [h] at e; exact absurd e.1 (by decide)
          have hn1 : 1 ≤ n := by
            rcases Nat.eq_zero_or_pos n with h | h
            · rw [h] at hne; exact absurd rfl hne
            · exact h
          have hzl : z ≤ w0.length := by
            have : 1 * z ≤ (n : Int) * z := Int.mul_le_mul_of_nonneg_right (by omega) (by omega)
            omega
          have cm1 : CMul p z := .inr ⟨by omega, by omega⟩
          have cm2 : CMul q z := .inr ⟨by omega, by omega⟩
          walk_at "ev"
        · intro _
          exact ev_non
      · rw [optL_if]
        show _ = Da.d (optL (aRoot (w0, p, q) z))
        unfold aRoot
        dsimp only
        rw [hle]
        have hz2 : decide (z < 2) = false := decide_eq_false (by omega)
        rw [hz2]
        by_cases he : (repW (w0.take n) z.toNat == w0) = true
        · have he' := eq_of_beq he
          have hlen : w0.length = z.toNat * n := by
            conv => lhs; rw [← he']
            unfold repW
            rw [List.length_flatten, List.map_replicate, List.sum_replicate_nat, List.length_take, Nat.min_eq_left hnl]
          have hmod : ((w0.length : Int) % z == 0) = true := by
            rw [hlen, Int.natCast_mul, Int.toNat_of_nonneg (by omega), Int.mul_emod_right]
            rfl
          rw [he, hmod]
          by_cases h0 : w0 = []
          · subst h0
            rw [List.take_nil]
            rfl
          · have h0' : ((w0.length : Int) == 0) = false := by
              apply beq_false_of_ne
              intro h
              exact h0 (List.eq_nil_of_length_eq_zero (by omega))
            have ht0 : (w0.take n == []) = false := by
              apply beq_false_of_ne
              intro h
              rw [h] at he'
              exact h0 (by rw [← he']; unfold repW; simp)
            rw [h0', ht0]
            rfl
        · have he' : (repW (w0.take n) z.toNat == w0) = false := by
            cases q : (repW (w0.take n) z.toNat == w0)
            · rfl
            · exact absurd q he
          rw [he', Bool.and_false, if_neg (show ¬ (false = true) by decide)]
          split <;> rfl
    · apply go_set (w := .d (.str (S [])))
      · refine evn_if (Pb := IsB false) ?_ (fun z => nomatch z) (fun _ => ?_)
        · apply et_is
          · walk_at "et"
          · exact decide_eq_false h1
        · refine ev_is ev_str ?_
          rw [show Str.ofString "" = S [] by decide +kernel]
      refine go_retE (w' := .d .none) R rfl (evn_if (Pb := IsB false) (et_andF ?_) (fun z => nomatch z) fun _ => ev_non) ?_
      · apply et_is
        · walk_at "et"
        · rfl
      · show _ = Da.d (optL (aRoot (w0, p, q) z))
        unfold aRoot
        rw [if_pos (by rw [decide_eq_true (by omega)]; rfl)]
        rfl
theorem ec_law_in_word {k : Kd} {t : Tr} {z : Int} (h : EvA K r ta ds (IsA [.d (.str k.name), .d (tD t), .d (.int z)])) (h1 : InW k t z) : Ev K r (tCall (sp_law_in_word K) [] E0 ta) ds (Is (.d (optL (act ⟨k, 0, z, 0⟩ t t)))) := ev_call (k, t, z) h rfl h1
end
end Kn

set_option Elab.async false
set_option linter.all false
set_option maxRecDepth 100000
set_option maxHeartbeats 4000000
/-! The law's own steps, by their words. -/
namespace Kn
open PySem PySem.Spec PyProof.Rows L2
local macro_rules | `(tactic| walk_at "sd") => `(tactic| first | trivial | assumption | walk_at "sz")
local macro_rules | `(tactic| walk_at "sz") => `(tactic| first | assumption | decide | omega | rfl | (simp only [List.length_append, List.length_map, List.length_cons, List.length_nil, List.length_reverse]; omega))
local macro_rules | `(tactic| walk_at "rv") => `(tactic| with_reducible first
  | exact rv_ix0 | exact rv_ix1 | exact rv_ix2 | exact rv_eqI | exact rv_neI | exact rv_eqE | exact rv_neE | exact rv_eqW | exact rv_neW | exact rv_eqS | exact rv_neS
  | exact rv_int0 | exact rv_bl0
  | exact rv_ixT0 | exact rv_ixT1
  | exact rv_ixRT (by assumption) | exact rv_ixRL (by assumption) | (apply rv_ixW; walk_at "sz"; assumption)
  | (refine rv_addW ?_; walk_at "sz")
  | (refine rv_catRT ?_; walk_at "sz") | (refine rv_catRL ?_; walk_at "sz")
  | (refine rv_intC ?_; assumption) | (apply rv_mulW; walk_at "sz"; walk_at "sz"; walk_at "sz")
  | exact rv_inW | exact rv_inSign | exact rv_isN | exact rv_notN | exact rv_notBl
  | exact rv_ixT (by with_unfolding_all rfl) | exact rv_ixL (by with_unfolding_all rfl)
  | exact rv_ixT (by assumption) | exact rv_ixL (by assumption)
  | (refine rv_catA ?_; walk_at "sz") | (refine rv_cat ?_; walk_at "sz"))
local macro_rules | `(tactic| walk_at "rs") => `(tactic| with_reducible first
  | exact rs_rT | exact rs_rL
  | (refine rs_w ?_ ?_; walk_at "sz"; (with_unfolding_all first | exact Nat.zero_le _ | exact HT.sIx_le _ _ (Nat.zero_le _) _ | assumption))
  | exact rs_tup | exact rs_list
  | (refine rs_str ?_; walk_at "sz"))
local macro_rules | `(tactic| walk_at "rc") => `(tactic| with_reducible first
  | exact rc_lenD3 | exact rc_lenRT | exact rc_lenRL | exact rc_lenT | exact rc_lenL | (refine rc_lenW ?_; walk_at "sz") | (refine rc_lenS ?_; walk_at "sz")
  | exact rc_isi (kit_int _) | exact rc_isi (kit_bool _) | exact rc_isi (kit_str _) | exact rc_isi (kit_tup _)
  | exact rc_max | exact rc_min | exact rc_int | exact rc_abs | exact rc_all | exact rc_tupL | exact rc_tupT | exact rc_list | exact rc_listT | (refine rc_listW ?_; walk_at "sz"))
local macro_rules | `(tactic| walk_at "rm") => `(tactic| first | (with_reducible apply rm_lowW; assumption; walk_at "sz") | (with_reducible apply rm_upW; assumption; walk_at "sz"))
local macro_rules | `(tactic| walk_at "ea") => `(tactic| first
  | with_reducible exact ea_nil
  | ((with_reducible apply ea_cons); walk_at "ev"; walk_at "ea"))
local macro_rules | `(tactic| walk_at "eo") => `(tactic| first
  | with_reducible exact eo_none
  | ((with_reducible apply eo_some); walk_at "ev"))
local macro_rules | `(tactic| walk_at "et") => `(tactic| first
  | ((with_reducible apply et_test); walk_at "ev")
  | ((with_reducible apply et_B); walk_at "ev")
  | ((with_reducible apply et_not); walk_at "et")
  | ((with_reducible apply et_and); walk_at "et"; intro _; walk_at "et")
  | ((with_reducible apply et_or); walk_at "et"; intro _; walk_at "et"))
local macro_rules | `(tactic| walk_at "ev") => `(tactic| first
  | with_reducible exact ev_int | with_reducible exact ev_str | with_reducible exact ev_bl | with_reducible exact ev_non | with_reducible exact ev_val
  | ((with_reducible apply ev_var); exact rfl)
  | ((with_reducible apply ev_op); walk_at "ev"; walk_at "ev"; walk_at "rv")
  | ((with_reducible apply ev_un); walk_at "ev"; exact ru_neg)
  | ((with_reducible apply ev_and); walk_at "ev"; intro _; walk_at "ev")
  | ((with_reducible apply ev_or); walk_at "ev"; intro _; walk_at "ev")
  | ((with_reducible apply ev_not); walk_at "ev")
  | ((with_reducible apply ev_sl); walk_at "ev"; walk_at "eo"; walk_at "eo"; walk_at "rs")
  | ((with_reducible apply ev_chain); walk_at "ev"; walk_at "ev"; walk_at "rv"; (intro _; walk_at "ev"); (intro _; walk_at "rv"))
  | walk_at "ec"
  | ((with_reducible apply ev_if); walk_at "et"; (intro _; walk_at "ev"); (intro _; walk_at "ev"))
  | ((with_reducible apply ev_m0); walk_at "ev"; walk_at "rm")
  | ((with_reducible apply ev_cb); walk_at "ea"; walk_at "rc")
  | ((with_reducible apply ev_tD); walk_at "ea")
  | with_reducible exact ev_rT0 | with_reducible exact ev_rL0
  | ((with_reducible apply ev_rT1); walk_at "ea") | ((with_reducible apply ev_rT2); walk_at "ea") | ((with_reducible apply ev_rT3); walk_at "ea")
  | ((with_reducible apply ev_rL1); walk_at "ea") | ((with_reducible apply ev_rL2); walk_at "ea") | ((with_reducible apply ev_rL3); walk_at "ea") | ((with_reducible apply ev_rL4); walk_at "ea")
  | ((with_reducible apply ev_revW); walk_at "ev"; walk_at "sz")
  | ((with_reducible apply ev_revL); walk_at "ev")
  | ((with_reducible apply ev_revT); walk_at "ev"))
local macro_rules | `(tactic| walk_at "ret") => `(tactic| (apply go_retE; assumption; exact rfl; walk_at "ev"))
local macro_rules | `(tactic| walk_at "if") => `(tactic| (apply go_if; walk_at "et"))
local macro_rules | `(tactic| walk_at "set") => `(tactic| (apply go_set; walk_at "ev"))
local macro_rules | `(tactic| walk_at "eg") => `(tactic| first | exact eg_name (by decide) | exact eg_tD (by decide) (by decide) (by decide))
local macro_rules | `(tactic| walk_at "ec") => `(tactic| first | ((with_reducible apply ec_law_back_word); walk_at "ea"; walk_at "sd"; walk_at "sd") | ((with_reducible apply ec_law_meet); walk_at "ea"; walk_at "sd"; walk_at "sd"))
section
variable {P : Program} {w w' : World} {K K' : PySem.W.Frag} {mg : Str → Option Value} {base : Heap} {r : Res} {ds : Sl} {ta : TA}
theorem optL_if0 {c : Bool} {x : Row} : (if c = true then Da.d (.list (tsD x)) else Da.d .none) = .d (optL (if c = true then some x else none)) := by cases c <;> rfl
theorem neg_opt {a b : Bool} {x : Option Row} : (if (!a || !b) = true then none else x) = (if (a && b) = true then x else none) := by cases a <;> cases b <;> rfl
theorem back_split {w0 w1 : Wd} {p q p1 q1 a : Int} (h : (!((p == 0) && (q == 1)) || (decide (a < 1) || (decide ((w1.length : Int) - a < 0) || !(cutG w1 (some ((w1.length : Int) - a)) none == w0)))) = false) :
    plain (w0, p, q) = true ∧ (w0.length : Int) = a ∧ 1 ≤ a ∧ a ≤ w1.length ∧ cutG w1 (some ((w1.length : Int) - a)) none = w0 := by
  rw [Bool.or_eq_false_iff, Bool.or_eq_false_iff, Bool.or_eq_false_iff, Bool.not_eq_false', Bool.not_eq_false'] at h
  obtain ⟨h1, h2, h3, h4⟩ := h
  have h2' := of_decide_eq_false h2
  have h3' := of_decide_eq_false h3
  have h4' := eq_of_beq h4
  refine ⟨h1, ?_, by omega, by omega, h4'⟩
  rw [← h4', cutG_len_drop _ _ (by omega)]
  omega
theorem back_f {w0 w1 : Wd} {p q p1 q1 a : Int} (h : (!((p == 0) && (q == 1)) || (decide (a < 1) || (decide ((w1.length : Int) - a < 0) || !(cutG w1 (some ((w1.length : Int) - a)) none == w0)))) = false) :
    aBack (w0, p, q) (w1, p1, q1) a = some [(w0 ++ cutG w1 none (some ((w1.length : Int) - a)), p1, q1), (w0, 0, 1)] ∧ p = 0 ∧ q = 1 := by
  obtain ⟨h1, h2, h3, h4, h5⟩ := back_split (p1 := p1) (q1 := q1) h
  have h1' := h1
  unfold plain at h1'
  rw [Bool.and_eq_true] at h1'
  refine ⟨?_, eq_of_beq h1'.1, eq_of_beq h1'.2⟩
  unfold aBack
  dsimp only
  rw [h1, h5, beq_self_eq_true, h2, beq_self_eq_true, decide_eq_false (by omega), decide_eq_false (by omega)]
  rfl
theorem back_t {w0 w1 : Wd} {p q p1 q1 a : Int} (h : (!((p == 0) && (q == 1)) || (decide (a < 1) || (decide ((w1.length : Int) - a < 0) || !(cutG w1 (some ((w1.length : Int) - a)) none == w0)))) = true) :
    aBack (w0, p, q) (w1, p1, q1) a = none := by
  unfold aBack
  dsimp only
  split
  · rfl
  · split
    · rfl
    · next c1 c2 =>
      exfalso
      have f1 : (!plain (w0, p, q) || (!((w0.length : Int) == a) || (decide (a < 1) || decide ((w1.length : Int) < a)))) = false := by
        cases z : (!plain (w0, p, q) || (!((w0.length : Int) == a) || (decide (a < 1) || decide ((w1.length : Int) < a))))
        · rfl
        · exact absurd z c1
      have f2 : (!(cutG w1 (some ((w1.length : Int) - a)) none == w0)) = false := by
        cases z : (!(cutG w1 (some ((w1.length : Int) - a)) none == w0))
        · rfl
        · exact absurd z c2
      rw [Bool.or_eq_false_iff, Bool.or_eq_false_iff, Bool.or_eq_false_iff] at f1
      have f3 : decide ((w1.length : Int) - a < 0) = false := decide_eq_false (by have := of_decide_eq_false f1.2.2.2; omega)
      rw [f2, f3, f1.2.2.1, show (!((p == 0) && (q == 1))) = false from f1.1] at h
      cases h
def sp_law_in_place (K : PySem.W.Frag) : Sp := spP K (fun a : PSt × Tr × Tr => [.d a.1.d, .d (tD a.2.1), .d (tD a.2.2)]) (fun a => okW a.2.1 ∧ okW a.2.2 ∧ SizeOk a.1.a) fun a => .d (optL (act a.1 a.2.1 a.2.2))
-- slots: 0=_law_step 1=_law_here 2=_law_behind_here 3=_law_kind 4=_law_strand 5=_law_by 6=_law_over 7=_law_size 8=_law_plain 9=_law_ahead
theorem sc_law_in_place : FnScope ["_law_step", "_law_here", "_law_behind_here", "_law_kind", "_law_strand", "_law_by", "_law_over", "_law_size", "_law_plain", "_law_ahead"] ["_law_step", "_law_here", "_law_behind_here"] (defScope s_law_in_place) := C8.fnScope_by (by decide +kernel)
theorem c_law_in_place (T : Tx K mg w) : Cal P w K mg base 3 "_law_in_place" ["_law_step", "_law_here", "_law_behind_here"] (sp_law_in_place K) := by
  refine calG T.e_law_in_place T.g_law_in_place sc_law_in_place (fun _ _ _ _ _ _ us hl => match us, hl with | [_, _, _], _ => rfl) (fun _ _ => rfl) fun f cdv A outer s H E hr => ?_
  refine ⟨_, (pss_cons (ps_asg (pe_tup (pa_cons (pe_ix ix_tup (pv 0) pe_int (fun _ _ => rfl)) (pa_cons (pv 1) (pa_cons (pe_ifExp (pt_cmpR op_gt (pe_callB call_len_seq (by rfl) T.f_len PySem.boot_len (pa_cons (pv 0) pa_nil)) pe_int (nomark _)) (pe_ix ix_tup (pv 0) pe_int (fun _ _ => rfl)) pe_int) pa_nil)))) (pg_tup rfl (pgs_cons (pg_name (i := 3) sc_law_in_place.nd rfl (Or.inl rfl)) (pgs_cons (pg_tup rfl (pgs_cons (pg_name (i := 4) sc_law_in_place.nd rfl (Or.inl rfl)) (pgs_cons (pg_name (i := 5) sc_law_in_place.nd rfl (Or.inl rfl)) (pgs_cons (pg_name (i := 6) sc_law_in_place.nd rfl (Or.inl rfl)) pgs_nil)))) (pgs_cons (pg_name (i := 7) sc_law_in_place.nd rfl (Or.inl rfl)) pgs_nil)))))
    (pss_cons (ps_set (i := 8) sc_law_in_place.nd rfl (Or.inl rfl) (pe_and (pe_cmpR op_eq (pv 5) pe_int (nomark _)) (pe_one (pe_cmpR op_eq (pv 6) pe_int (nomark _)))))
    (pss_cons (ps_if (pt_cmpR op_eq (pv 3) pe_str (nomark _)) (pss_cons (ps_ret (pe_ifExp (PW.pt (pw_or (pt_cmpR op_eq (pv 4) pe_str (nomark _)) (pw_or1 (PW.pt (pw_and (pt_cmpR op_eq (pv 5) pe_int (nomark _)) (pw_and1 (pt_cmpR op_eq (pv 6) pe_int (nomark _)))))))) (pe_lst pa_nil) pe_non))
    pss_nil) pss_nil)
    (pss_cons (ps_if (pt_cmpR op_eq (pv 3) pe_str (nomark _)) (pss_cons (ps_ret (pe_lst (pa_cons (pe_tup (pa_cons (pe_c (c_law_back_word T) hr (by decide) (by rfl) (pa_cons (pv 4) pa_nil)) (pa_cons (pe_un un_neg (pv 5)) (pa_cons (pe_un un_neg (pv 6)) pa_nil)))) pa_nil)))
    pss_nil) pss_nil)
    (pss_cons (ps_if (pt_cmpR op_eq (pv 3) pe_str (nomark _)) (pss_cons (ps_ret (pe_ifExp (pt_cmpR op_eq (pv 4) (pe_ix ix_tup (pv 2) pe_int (fun _ _ => rfl)) (nomark _)) (pe_lst (pa_cons (pe_tup (pa_cons (pv 4) (pa_cons (pe_op op_add (pv 5) (pe_ix ix_tup (pv 2) pe_int (fun _ _ => rfl))) (pa_cons (pe_op op_add (pv 6) (pe_ix ix_tup (pv 2) pe_int (fun _ _ => rfl))) pa_nil)))) pa_nil)) pe_non))
    pss_nil) pss_nil)
    (pss_cons (ps_if (pt_cmpR op_eq (pv 3) pe_str (nomark _)) (pss_cons (ps_ret (pe_lst (pa_cons (pe_tup (pa_cons (pv 4) (pa_cons (pe_op op_sub (pv 5) (pv 7)) (pa_cons (pe_op op_sub (pv 6) (pe_ix ix_tup (pv 0) pe_int (fun _ _ => rfl))) pa_nil)))) (pa_cons (pe_tup (pa_cons (pv 4) (pa_cons (pv 7) (pa_cons (pe_ix ix_tup (pv 0) pe_int (fun _ _ => rfl)) pa_nil)))) pa_nil))))
    pss_nil) pss_nil)
    (pss_cons (ps_if (pt_cmpR op_eq (pv 3) pe_str (nomark _)) (pss_cons (ps_ret (pe_ifExp (PW.pt (pw_and (pt_val (pv 8)) (pw_and1 (pt_chain op_lt op_lt pe_int (pv 7) (pe_callB call_len_str (by rfl) T.f_len PySem.boot_len (pa_cons (pv 4) pa_nil)))))) (pe_lst (pa_cons (pe_tup (pa_cons (pe_slice C8.sl_txt (pv 4) po_none (po_some (pv 7))) (pa_cons pe_int (pa_cons pe_int pa_nil)))) (pa_cons (pe_tup (pa_cons (pe_slice C8.sl_txt (pv 4) (po_some (pv 7)) po_none) (pa_cons pe_int (pa_cons pe_int pa_nil)))) pa_nil))) pe_non))
    pss_nil) pss_nil)
    (pss_cons (ps_if (pt_cmpR op_eq (pv 3) pe_str (nomark _)) (pss_cons (ps_ret (pe_ifExp (PW.pt (pw_and (pt_val (pv 8)) (pw_and1 (pt_cmpR (op_eqD hr.units) (pe_slice sl_tupA (pv 2) (po_some pe_int) po_none) (pe_tup (pa_cons pe_int (pa_cons pe_int pa_nil))) (nomark _))))) (pe_lst (pa_cons (pe_tup (pa_cons (pe_op op_add_str (pv 4) (pe_ix ix_tup (pv 2) pe_int (fun _ _ => rfl))) (pa_cons pe_int (pa_cons pe_int pa_nil)))) pa_nil)) pe_non))
    pss_nil) pss_nil)
    (pss_cons (ps_if (pt_cmpR op_eq (pv 3) pe_str (nomark _)) (pss_cons (ps_set (i := 9) sc_law_in_place.nd rfl (Or.inl rfl) (pe_op op_sub (pe_callB call_len_str (by rfl) T.f_len PySem.boot_len (pa_cons (pe_ix ix_tup (pv 2) pe_int (fun _ _ => rfl)) pa_nil)) (pv 7)))
    (pss_cons (ps_if (PW.pt (pw_or (pt_not (pt_val (pv 8))) (pw_or (pt_cmpR op_lt (pv 7) pe_int (nomark _)) (pw_or (pt_cmpR op_lt (pv 9) pe_int (nomark _)) (pw_or1 (pt_cmpR op_ne (pe_slice C8.sl_txt (pe_ix ix_tup (pv 2) pe_int (fun _ _ => rfl)) (po_some (pv 9)) po_none) (pv 4) (nomark _))))))) (pss_cons (ps_ret pe_non)
    pss_nil) pss_nil)
    (pss_cons (ps_ret (pe_lst (pa_cons (pe_tup (pa_cons (pe_op op_add_str (pv 4) (pe_slice C8.sl_txt (pe_ix ix_tup (pv 2) pe_int (fun _ _ => rfl)) po_none (po_some (pv 9)))) (pa_cons (pe_ix ix_tup (pv 2) pe_int (fun _ _ => rfl)) (pa_cons (pe_ix ix_tup (pv 2) pe_int (fun _ _ => rfl)) pa_nil)))) (pa_cons (pv 1) pa_nil))))
    pss_nil))) pss_nil)
    (pss_cons (ps_ret (pe_c (c_law_in_word T) hr (by decide) (by rfl) (pa_cons (pv 3) (pa_cons (pv 1) (pa_cons (pv 7) pa_nil)))))
    pss_nil)))))))))), ?_⟩
  intro a r F0 H0 D hp R
  dsimp only [nox_K]
  obtain ⟨⟨k, i, a, b⟩, ⟨w0, p, q⟩, ⟨w1, p1, q1⟩⟩ := a
  obtain ⟨⟨hw, hl⟩, ⟨hw1, hl1⟩, hz⟩ := hp
  dsimp only at hw hl hw1 hl1 hz ⊢
  have h3 : (2 : Int) < 3 := by decide
  cases k with
  | out =>
    rw [show (PSt.mk .out i a b).d = .tuple [.str Kd.out.name, .int i] from rfl]
    apply go_unp (P := Is (.d (.tuple [.str Kd.out.name, tD (w0, p, q), .int 0]))) (vs := [3, 4, 5, 6, 7])
    · refine ev_tup (xs := [.str Kd.out.name, tD (w0, p, q), .int 0]) (ea_cons ?_ (ea_cons ?_ (ea_cons ?_ ea_nil))) (by simp)
      · walk_at "ev"
      · walk_at "ev"
      · refine evn_if (Pb := IsB false) ?_ (fun z => nomatch z) fun _ => ?_
        · apply et_is; walk_at "et"; rfl
        · walk_at "ev"
    intro w e
    subst e
    refine ⟨_, eg_tup (xs := [.str Kd.out.name, tD (w0, p, q), .int 0]) (egs_cons (eg_name (by decide)) (egs_cons (eg_tD (by decide) (by decide) (by decide)) (egs_cons (eg_name (by decide)) egs_nil))) rfl, ?_⟩
    dsimp only
    walk_at "set"
    refine go_ifT ?_ ?_
    · apply et_is; walk_at "et"; decide +kernel
    walk_at "ret"
    show _ = Da.d (optL (aOut (w0, p, q)))
    unfold aOut
    rw [optL_if0]
  | turn =>
    rw [show (PSt.mk .turn i a b).d = .tuple [.str Kd.turn.name, .int i] from rfl]
    apply go_unp (P := Is (.d (.tuple [.str Kd.turn.name, tD (w0, p, q), .int 0]))) (vs := [3, 4, 5, 6, 7])
    · refine ev_tup (xs := [.str Kd.turn.name, tD (w0, p, q), .int 0]) (ea_cons ?_ (ea_cons ?_ (ea_cons ?_ ea_nil))) (by simp)
      · walk_at "ev"
      · walk_at "ev"
      · refine evn_if (Pb := IsB false) ?_ (fun z => nomatch z) fun _ => ?_
        · apply et_is; walk_at "et"; rfl
        · walk_at "ev"
    intro w e
    subst e
    refine ⟨_, eg_tup (xs := [.str Kd.turn.name, tD (w0, p, q), .int 0]) (egs_cons (eg_name (by decide)) (egs_cons (eg_tD (by decide) (by decide) (by decide)) (egs_cons (eg_name (by decide)) egs_nil))) rfl, ?_⟩
    dsimp only
    walk_at "set"
    refine go_ifF ?_ (go_skip ?_)
    · apply et_is; walk_at "et"; decide +kernel
    refine go_ifT ?_ ?_
    · apply et_is; walk_at "et"; decide +kernel
    walk_at "ret"
    rfl
  | join =>
    rw [show (PSt.mk .join i a b).d = .tuple [.str Kd.join.name, .int i] from rfl]
    apply go_unp (P := Is (.d (.tuple [.str Kd.join.name, tD (w0, p, q), .int 0]))) (vs := [3, 4, 5, 6, 7])
    · refine ev_tup (xs := [.str Kd.join.name, tD (w0, p, q), .int 0]) (ea_cons ?_ (ea_cons ?_ (ea_cons ?_ ea_nil))) (by simp)
      · walk_at "ev"
      · walk_at "ev"
      · refine evn_if (Pb := IsB false) ?_ (fun z => nomatch z) fun _ => ?_
        · apply et_is; walk_at "et"; rfl
        · walk_at "ev"
    intro w e
    subst e
    refine ⟨_, eg_tup (xs := [.str Kd.join.name, tD (w0, p, q), .int 0]) (egs_cons (eg_name (by decide)) (egs_cons (eg_tD (by decide) (by decide) (by decide)) (egs_cons (eg_name (by decide)) egs_nil))) rfl, ?_⟩
    dsimp only
    walk_at "set"
    refine go_ifF ?_ (go_skip ?_)
    · apply et_is; walk_at "et"; decide +kernel
    refine go_ifF ?_ (go_skip ?_)
    · apply et_is; walk_at "et"; decide +kernel
    refine go_ifT ?_ ?_
    · apply et_is; walk_at "et"; decide +kernel
    walk_at "ret"
    show _ = Da.d (optL (aJoin (w0, p, q) (w1, p1, q1)))
    exact optL_if
  | split =>
    rw [show (PSt.mk .split i a b).d = .tuple [.str Kd.split.name, .int i, .int a, .int b] from rfl]
    apply go_unp (P := Is (.d (.tuple [.str Kd.split.name, tD (w0, p, q), .int a]))) (vs := [3, 4, 5, 6, 7])
    · refine ev_tup (xs := [.str Kd.split.name, tD (w0, p, q), .int a]) (ea_cons ?_ (ea_cons ?_ (ea_cons ?_ ea_nil))) (by simp)
      · walk_at "ev"
      · walk_at "ev"
      · refine evn_if (Pb := IsB true) ?_ (fun _ => ?_) fun z => nomatch z
        · apply et_is; walk_at "et"; rfl
        · walk_at "ev"
    intro w e
    subst e
    refine ⟨_, eg_tup (xs := [.str Kd.split.name, tD (w0, p, q), .int a]) (egs_cons (eg_name (by decide)) (egs_cons (eg_tD (by decide) (by decide) (by decide)) (egs_cons (eg_name (by decide)) egs_nil))) rfl, ?_⟩
    dsimp only
    walk_at "set"
    refine go_ifF ?_ (go_skip ?_)
    · apply et_is; walk_at "et"; decide +kernel
    refine go_ifF ?_ (go_skip ?_)
    · apply et_is; walk_at "et"; decide +kernel
    refine go_ifF ?_ (go_skip ?_)
    · apply et_is; walk_at "et"; decide +kernel
    refine go_ifT ?_ ?_
    · apply et_is; walk_at "et"; decide +kernel
    walk_at "ret"
    rfl
  | cut =>
    rw [show (PSt.mk .cut i a b).d = .tuple [.str Kd.cut.name, .int i, .int a] from rfl]
    apply go_unp (P := Is (.d (.tuple [.str Kd.cut.name, tD (w0, p, q), .int a]))) (vs := [3, 4, 5, 6, 7])
    · refine ev_tup (xs := [.str Kd.cut.name, tD (w0, p, q), .int a]) (ea_cons ?_ (ea_cons ?_ (ea_cons ?_ ea_nil))) (by simp)
      · walk_at "ev"
      · walk_at "ev"
      · refine evn_if (Pb := IsB true) ?_ (fun _ => ?_) fun z => nomatch z
        · apply et_is; walk_at "et"; rfl
        · walk_at "ev"
    intro w e
    subst e
    refine ⟨_, eg_tup (xs := [.str Kd.cut.name, tD (w0, p, q), .int a]) (egs_cons (eg_name (by decide)) (egs_cons (eg_tD (by decide) (by decide) (by decide)) (egs_cons (eg_name (by decide)) egs_nil))) rfl, ?_⟩
    dsimp only
    walk_at "set"
    refine go_ifF ?_ (go_skip ?_)
    · apply et_is; walk_at "et"; decide +kernel
    refine go_ifF ?_ (go_skip ?_)
    · apply et_is; walk_at "et"; decide +kernel
    refine go_ifF ?_ (go_skip ?_)
    · apply et_is; walk_at "et"; decide +kernel
    refine go_ifF ?_ (go_skip ?_)
    · apply et_is; walk_at "et"; decide +kernel
    refine go_ifT ?_ ?_
    · apply et_is; walk_at "et"; decide +kernel
    walk_at "ret"
    show _ = Da.d (optL (aCut (w0, p, q) a))
    rw [optL_if]
    unfold aCut plain
    dsimp only
    rw [neg_opt]
  | glue =>
    rw [show (PSt.mk .glue i a b).d = .tuple [.str Kd.glue.name, .int i] from rfl]
    apply go_unp (P := Is (.d (.tuple [.str Kd.glue.name, tD (w0, p, q), .int 0]))) (vs := [3, 4, 5, 6, 7])
    · refine ev_tup (xs := [.str Kd.glue.name, tD (w0, p, q), .int 0]) (ea_cons ?_ (ea_cons ?_ (ea_cons ?_ ea_nil))) (by simp)
      · walk_at "ev"
      · walk_at "ev"
      · refine evn_if (Pb := IsB false) ?_ (fun z => nomatch z) fun _ => ?_
        · apply et_is; walk_at "et"; rfl
        · walk_at "ev"
    intro w e
    subst e
    refine ⟨_, eg_tup (xs := [.str Kd.glue.name, tD (w0, p, q), .int 0]) (egs_cons (eg_name (by decide)) (egs_cons (eg_tD (by decide) (by decide) (by decide)) (egs_cons (eg_name (by decide)) egs_nil))) rfl, ?_⟩
    dsimp only
    walk_at "set"
    refine go_ifF ?_ (go_skip ?_)
    · apply et_is; walk_at "et"; decide +kernel
    refine go_ifF ?_ (go_skip ?_)
    · apply et_is; walk_at "et"; decide +kernel
    refine go_ifF ?_ (go_skip ?_)
    · apply et_is; walk_at "et"; decide +kernel
    refine go_ifF ?_ (go_skip ?_)
    · apply et_is; walk_at "et"; decide +kernel
    refine go_ifF ?_ (go_skip ?_)
    · apply et_is; walk_at "et"; decide +kernel
    refine go_ifT ?_ ?_
    · apply et_is; walk_at "et"; decide +kernel
    refine go_retE (w' := if (plain (w0, p, q) && plain (w1, p1, q1)) = true then .d (.list (tsD [(w0 ++ w1, 0, 1)])) else .d .none) R rfl (ev_if ?_ (fun _ => ?_) fun _ => ev_non) ?_
    · apply et_and
      · walk_at "et"
      · intro _
        refine et_test (ev_is (ev_op (x := .d (.tuple [.int p1, .int q1])) (y := .d (.tuple [.int 0, .int 1])) ?_ ?_ (rv_eqD rfl rfl rfl)) ?_)
        · refine ev_is (ev_sl (lo := some 1) (hi := none) (w := .d (.tuple [.str (S w1), .int p1, .int q1])) (ev_var rfl) (eo_some ev_int) eo_none rs_tup) ?_
          rw [cutP_tail]
        · refine ev_tup (xs := [.int 0, .int 1]) (ea_cons ?_ (ea_one ?_)) (by simp)
          · walk_at "ev"
          · walk_at "ev"
        · simp [PyData.eqv, PyData.eqvAll, plain]
    · walk_at "ev"
    · rw [optL_if]
      rfl
  | undo =>
    rw [show (PSt.mk .undo i a b).d = .tuple [.str Kd.undo.name, .int i, .int a] from rfl]
    apply go_unp (P := Is (.d (.tuple [.str Kd.undo.name, tD (w0, p, q), .int a]))) (vs := [3, 4, 5, 6, 7])
    · refine ev_tup (xs := [.str Kd.undo.name, tD (w0, p, q), .int a]) (ea_cons ?_ (ea_cons ?_ (ea_cons ?_ ea_nil))) (by simp)
      · walk_at "ev"
      · walk_at "ev"
      · refine evn_if (Pb := IsB true) ?_ (fun _ => ?_) fun z => nomatch z
        · apply et_is; walk_at "et"; rfl
        · walk_at "ev"
    intro w e
    subst e
    refine ⟨_, eg_tup (xs := [.str Kd.undo.name, tD (w0, p, q), .int a]) (egs_cons (eg_name (by decide)) (egs_cons (eg_tD (by decide) (by decide) (by decide)) (egs_cons (eg_name (by decide)) egs_nil))) rfl, ?_⟩
    dsimp only
    walk_at "set"
    refine go_ifF ?_ (go_skip ?_)
    · apply et_is; walk_at "et"; decide +kernel
    refine go_ifF ?_ (go_skip ?_)
    · apply et_is; walk_at "et"; decide +kernel
    refine go_ifF ?_ (go_skip ?_)
    · apply et_is; walk_at "et"; decide +kernel
    refine go_ifF ?_ (go_skip ?_)
    · apply et_is; walk_at "et"; decide +kernel
    refine go_ifF ?_ (go_skip ?_)
    · apply et_is; walk_at "et"; decide +kernel
    refine go_ifF ?_ (go_skip ?_)
    · apply et_is; walk_at "et"; decide +kernel
    refine go_ifF ?_ (go_skip ?_)
    · apply et_is; walk_at "et"; decide +kernel
    refine go_retE R rfl (ec_law_in_word (k := .undo) (t := (w0, p, q)) (z := a) ?_ ⟨.inl rfl, ⟨hw, hl⟩, hz⟩) rfl
    walk_at "ea"
  | back =>
    rw [show (PSt.mk .back i a b).d = .tuple [.str Kd.back.name, .int i, .int a] from rfl]
    apply go_unp (P := Is (.d (.tuple [.str Kd.back.name, tD (w0, p, q), .int a]))) (vs := [3, 4, 5, 6, 7])
    · refine ev_tup (xs := [.str Kd.back.name, tD (w0, p, q), .int a]) (ea_cons ?_ (ea_cons ?_ (ea_cons ?_ ea_nil))) (by simp)
      · walk_at "ev"
      · walk_at "ev"
      · refine evn_if (Pb := IsB true) ?_ (fun _ => ?_) fun z => nomatch z
        · apply et_is; walk_at "et"; rfl
        · walk_at "ev"
    intro w e
    subst e
    refine ⟨_, eg_tup (xs := [.str Kd.back.name, tD (w0, p, q), .int a]) (egs_cons (eg_name (by decide)) (egs_cons (eg_tD (by decide) (by decide) (by decide)) (egs_cons (eg_name (by decide)) egs_nil))) rfl, ?_⟩
    dsimp only
    walk_at "set"
    refine go_ifF ?_ (go_skip ?_)
    · apply et_is; walk_at "et"; decide +kernel
    refine go_ifF ?_ (go_skip ?_)
    · apply et_is; walk_at "et"; decide +kernel
    refine go_ifF ?_ (go_skip ?_)
    · apply et_is; walk_at "et"; decide +kernel
    refine go_ifF ?_ (go_skip ?_)
    · apply et_is; walk_at "et"; decide +kernel
    refine go_ifF ?_ (go_skip ?_)
    · apply et_is; walk_at "et"; decide +kernel
    refine go_ifF ?_ (go_skip ?_)
    · apply et_is; walk_at "et"; decide +kernel
    refine go_ifT ?_ ?_
    · apply et_is; walk_at "et"; decide +kernel
    walk_at "set"
    have l3 := cutG_len w1 none (some ((w1.length : Int) - a))
    walk_at "if"
    · intro e
      walk_at "ret"
      show _ = Da.d (optL (aBack (w0, p, q) (w1, p1, q1) a))
      rw [back_t e]
      rfl
    · intro e
      apply go_skip
      obtain ⟨e1, e2⟩ := back_f e
      refine go_retE (w' := .d (.list (tsD [(w0 ++ cutG w1 none (some ((w1.length : Int) - a)), p1, q1), (w0, p, q)]))) R rfl ?_ ?_
      · walk_at "ev"
      · show _ = Da.d (optL (aBack (w0, p, q) (w1, p1, q1) a))
        rw [e1, e2.1, e2.2]
        rfl
  | opn =>
    rw [show (PSt.mk .opn i a b).d = .tuple [.str Kd.opn.name, .int i, .int a] from rfl]
    apply go_unp (P := Is (.d (.tuple [.str Kd.opn.name, tD (w0, p, q), .int a]))) (vs := [3, 4, 5, 6, 7])
    · refine ev_tup (xs := [.str Kd.opn.name, tD (w0, p, q), .int a]) (ea_cons ?_ (ea_cons ?_ (ea_cons ?_ ea_nil))) (by simp)
      · walk_at "ev"
      · walk_at "ev"
      · refine evn_if (Pb := IsB true) ?_ (fun _ => ?_) fun z => nomatch z
        · apply et_is; walk_at "et"; rfl
        · walk_at "ev"
    intro w e
    subst e
    refine ⟨_, eg_tup (xs := [.str Kd.opn.name, tD (w0, p, q), .int a]) (egs_cons (eg_name (by decide)) (egs_cons (eg_tD (by decide) (by decide) (by decide)) (egs_cons (eg_name (by decide)) egs_nil))) rfl, ?_⟩
    dsimp only
    walk_at "set"
    refine go_ifF ?_ (go_skip ?_)
    · apply et_is; walk_at "et"; decide +kernel
    refine go_ifF ?_ (go_skip ?_)
    · apply et_is; walk_at "et"; decide +kernel
    refine go_ifF ?_ (go_skip ?_)
    · apply et_is; walk_at "et"; decide +kernel
    refine go_ifF ?_ (go_skip ?_)
    · apply et_is; walk_at "et"; decide +kernel
    refine go_ifF ?_ (go_skip ?_)
    · apply et_is; walk_at "et"; decide +kernel
    refine go_ifF ?_ (go_skip ?_)
    · apply et_is; walk_at "et"; decide +kernel
    refine go_ifF ?_ (go_skip ?_)
    · apply et_is; walk_at "et"; decide +kernel
    refine go_retE R rfl (ec_law_in_word (k := .opn) (t := (w0, p, q)) (z := a) ?_ ⟨.inr (.inl rfl), ⟨hw, hl⟩, hz⟩) rfl
    walk_at "ea"
  | root =>
    rw [show (PSt.mk .root i a b).d = .tuple [.str Kd.root.name, .int i, .int a] from rfl]
    apply go_unp (P := Is (.d (.tuple [.str Kd.root.name, tD (w0, p, q), .int a]))) (vs := [3, 4, 5, 6, 7])
    · refine ev_tup (xs := [.str Kd.root.name, tD (w0, p, q), .int a]) (ea_cons ?_ (ea_cons ?_ (ea_cons ?_ ea_nil))) (by simp)
      · walk_at "ev"
      · walk_at "ev"
      · refine evn_if (Pb := IsB true) ?_ (fun _ => ?_) fun z => nomatch z
        · apply et_is; walk_at "et"; rfl
        · walk_at "ev"
    intro w e
    subst e
    refine ⟨_, eg_tup (xs := [.str Kd.root.name, tD (w0, p, q), .int a]) (egs_cons (eg_name (by decide)) (egs_cons (eg_tD (by decide) (by decide) (by decide)) (egs_cons (eg_name (by decide)) egs_nil))) rfl, ?_⟩
    dsimp only
    walk_at "set"
    refine go_ifF ?_ (go_skip ?_)
    · apply et_is; walk_at "et"; decide +kernel
    refine go_ifF ?_ (go_skip ?_)
    · apply et_is; walk_at "et"; decide +kernel
    refine go_ifF ?_ (go_skip ?_)
    · apply et_is; walk_at "et"; decide +kernel
    refine go_ifF ?_ (go_skip ?_)
    · apply et_is; walk_at "et"; decide +kernel
    refine go_ifF ?_ (go_skip ?_)
    · apply et_is; walk_at "et"; decide +kernel
    refine go_ifF ?_ (go_skip ?_)
    · apply et_is; walk_at "et"; decide +kernel
    refine go_ifF ?_ (go_skip ?_)
    · apply et_is; walk_at "et"; decide +kernel
    refine go_retE R rfl (ec_law_in_word (k := .root) (t := (w0, p, q)) (z := a) ?_ ⟨.inr (.inr rfl), ⟨hw, hl⟩, hz⟩) rfl
    walk_at "ea"
theorem ec_law_in_place {s : PSt} {x y : Tr} (h : EvA K r ta ds (IsA [.d s.d, .d (tD x), .d (tD y)])) (h1 : okW x) (h2 : okW y) (h3 : SizeOk s.a) : Ev K r (tCall (sp_law_in_place K) [] E0 ta) ds (Is (.d (optL (act s x y)))) := ev_call (s, x, y) h rfl ⟨h1, h2, h3⟩
end
end Kn

set_option Elab.async false
set_option linter.all false
set_option maxRecDepth 100000
set_option maxHeartbeats 4000000
/-! The law's own steps on rows. -/
namespace Kn
open PySem PySem.Spec PyProof.Rows L2
local macro_rules | `(tactic| walk_at "sd") => `(tactic| first | trivial | assumption | walk_at "sz")
local macro_rules | `(tactic| walk_at "sz") => `(tactic| first | assumption | decide | omega | rfl | (simp only [List.length_append, List.length_map, List.length_cons, List.length_nil, List.length_reverse]; omega))
local macro_rules | `(tactic| walk_at "rv") => `(tactic| with_reducible first
  | exact rv_ix0 | exact rv_ix1 | exact rv_ix2 | exact rv_eqI | exact rv_neI | exact rv_eqE | exact rv_neE | exact rv_eqW | exact rv_neW | exact rv_eqS | exact rv_neS
  | exact rv_int0 | exact rv_bl0
  | exact rv_ixT0 | exact rv_ixT1
  | exact rv_ixRT (by assumption) | exact rv_ixRL (by assumption) | (apply rv_ixW; walk_at "sz"; assumption)
  | (refine rv_addW ?_; walk_at "sz")
  | (refine rv_catRT ?_; walk_at "sz") | (refine rv_catRL ?_; walk_at "sz")
  | (refine rv_intC ?_; assumption) | (apply rv_mulW; walk_at "sz"; walk_at "sz"; walk_at "sz")
  | exact rv_inW | exact rv_inSign | exact rv_isN | exact rv_notN | exact rv_notBl
  | exact rv_ixT (by with_unfolding_all rfl) | exact rv_ixL (by with_unfolding_all rfl)
  | exact rv_ixT (by assumption) | exact rv_ixL (by assumption)
  | (refine rv_catA ?_; walk_at "sz") | (refine rv_cat ?_; walk_at "sz"))
local macro_rules | `(tactic| walk_at "rs") => `(tactic| with_reducible first
  | exact rs_rT | exact rs_rL
  | (refine rs_w ?_ ?_; walk_at "sz"; (with_unfolding_all first | exact Nat.zero_le _ | exact HT.sIx_le _ _ (Nat.zero_le _) _ | assumption))
  | exact rs_tup | exact rs_list
  | (refine rs_str ?_; walk_at "sz"))
local macro_rules | `(tactic| walk_at "rc") => `(tactic| with_reducible first
  | exact rc_lenD3 | exact rc_lenRT | exact rc_lenRL | exact rc_lenT | exact rc_lenL | (refine rc_lenW ?_; walk_at "sz") | (refine rc_lenS ?_; walk_at "sz")
  | exact rc_isi (kit_int _) | exact rc_isi (kit_bool _) | exact rc_isi (kit_str _) | exact rc_isi (kit_tup _)
  | exact rc_max | exact rc_min | exact rc_int | exact rc_abs | exact rc_all | exact rc_tupL | exact rc_tupT | exact rc_list | exact rc_listT | (refine rc_listW ?_; walk_at "sz"))
local macro_rules | `(tactic| walk_at "rm") => `(tactic| first | (with_reducible apply rm_lowW; assumption; walk_at "sz") | (with_reducible apply rm_upW; assumption; walk_at "sz"))
local macro_rules | `(tactic| walk_at "ea") => `(tactic| first
  | with_reducible exact ea_nil
  | ((with_reducible apply ea_cons); walk_at "ev"; walk_at "ea"))
local macro_rules | `(tactic| walk_at "eo") => `(tactic| first
  | with_reducible exact eo_none
  | ((with_reducible apply eo_some); walk_at "ev"))
local macro_rules | `(tactic| walk_at "et") => `(tactic| first
  | ((with_reducible apply et_test); walk_at "ev")
  | ((with_reducible apply et_B); walk_at "ev")
  | ((with_reducible apply et_not); walk_at "et")
  | ((with_reducible apply et_and); walk_at "et"; intro _; walk_at "et")
  | ((with_reducible apply et_or); walk_at "et"; intro _; walk_at "et"))
local macro_rules | `(tactic| walk_at "ev") => `(tactic| first
  | with_reducible exact ev_int | with_reducible exact ev_str | with_reducible exact ev_bl | with_reducible exact ev_non | with_reducible exact ev_val
  | ((with_reducible apply ev_var); exact rfl)
  | ((with_reducible apply ev_op); walk_at "ev"; walk_at "ev"; walk_at "rv")
  | ((with_reducible apply ev_un); walk_at "ev"; exact ru_neg)
  | ((with_reducible apply ev_and); walk_at "ev"; intro _; walk_at "ev")
  | ((with_reducible apply ev_or); walk_at "ev"; intro _; walk_at "ev")
  | ((with_reducible apply ev_not); walk_at "ev")
  | ((with_reducible apply ev_sl); walk_at "ev"; walk_at "eo"; walk_at "eo"; walk_at "rs")
  | ((with_reducible apply ev_chain); walk_at "ev"; walk_at "ev"; walk_at "rv"; (intro _; walk_at "ev"); (intro _; walk_at "rv"))
  | walk_at "ec"
  | ((with_reducible apply ev_if); walk_at "et"; (intro _; walk_at "ev"); (intro _; walk_at "ev"))
  | ((with_reducible apply ev_m0); walk_at "ev"; walk_at "rm")
  | ((with_reducible apply ev_cb); walk_at "ea"; walk_at "rc")
  | ((with_reducible apply ev_tD); walk_at "ea")
  | with_reducible exact ev_rT0 | with_reducible exact ev_rL0
  | ((with_reducible apply ev_rT1); walk_at "ea") | ((with_reducible apply ev_rT2); walk_at "ea") | ((with_reducible apply ev_rT3); walk_at "ea")
  | ((with_reducible apply ev_rL1); walk_at "ea") | ((with_reducible apply ev_rL2); walk_at "ea") | ((with_reducible apply ev_rL3); walk_at "ea") | ((with_reducible apply ev_rL4); walk_at "ea")
  | ((with_reducible apply ev_revW); walk_at "ev"; walk_at "sz")
  | ((with_reducible apply ev_revL); walk_at "ev")
  | ((with_reducible apply ev_revT); walk_at "ev"))
local macro_rules | `(tactic| walk_at "ret") => `(tactic| (apply go_retE; assumption; exact rfl; walk_at "ev"))
local macro_rules | `(tactic| walk_at "if") => `(tactic| (apply go_if; walk_at "et"))
local macro_rules | `(tactic| walk_at "set") => `(tactic| (apply go_set; walk_at "ev"))
local macro_rules | `(tactic| walk_at "eg") => `(tactic| first | exact eg_name (by decide) | exact eg_tD (by decide) (by decide) (by decide))
section
variable {P : Program} {w w' : World} {K K' : PySem.W.Frag} {mg : Str → Option Value} {base : Heap} {r : Res} {ds : Sl} {ta : TA}
def tabF : List (Str × V) := [("out", .int 2), ("turn", .int 2), ("join", .int 2), ("split", .int 4), ("cut", .int 3), ("glue", .int 2), ("undo", .int 3), ("back", .int 3), ("open", .int 3), ("root", .int 3)]
def mF : List (Key × V) := mergeK [] (strKV tabF)
def szI (z : Str) : Int := match kOf z with
  | some k => (k.sz : Nat)
  | none => -1
theorem tabF_at {z : Str} (h : z ∈ names12) : (valV mF (.inr z)).getD (.int (-1)) = .int (szI z) := by
  simp only [names12, List.mem_cons, List.not_mem_nil, or_false] at h
  rcases h with e | e | e | e | e | e | e | e | e | e | e | e <;> subst e <;> decide +kernel
theorem names_lay : ∀ z ∈ names12, PyData.strOk z = true := by decide +kernel
theorem flat_lay : ∀ {xs : List PyData}, xs.all flatI = true → PyData.canLayAll0 xs = true ∧ PyData.depthAll xs ≤ 0
  | [], _ => ⟨by simp [PyData.canLayAll0], by simp [PyData.depthAll]⟩
  | x :: xs, h => by
    rw [List.all_cons, Bool.and_eq_true] at h
    obtain ⟨h1, h2⟩ := flat_lay h.2
    have hx : PyData.canLay0 x = true ∧ PyData.depth x = 0 := by
      cases x with
      | none => exact ⟨by simp [PyData.canLay0], by simp [PyData.depth]⟩
      | bool b => exact ⟨by simp [PyData.canLay0], by simp [PyData.depth]⟩
      | int b => exact ⟨by simp [PyData.canLay0], by simp [PyData.depth]⟩
      | str z => exact ⟨by simpa [PyData.canLay0] using names_lay z (of_decide_eq_true h.1), by simp [PyData.depth]⟩
      | list l => exact absurd h.1 (by simp [flatI])
      | tuple l => exact absurd h.1 (by simp [flatI])
      | dict l => exact absurd h.1 (by simp [flatI])
    refine ⟨?_, ?_⟩
    · simp [PyData.canLayAll0, hx.1, h1]
    · simp only [PyData.depthAll, hx.2]
      omega
theorem shaped_st {d : PyData} (h : StOk d) : SeqAt.shaped d = true := by
  cases d with
  | none => rfl
  | bool b => exact False.elim h
  | int b => exact False.elim h
  | str b => exact False.elim h
  | dict b => exact False.elim h
  | list xs =>
    obtain ⟨h1, h2⟩ := flat_lay h.2
    unfold SeqAt.shaped
    rw [Bool.and_eq_true]
    exact ⟨by simpa [PyData.canLay0] using h1, decide_eq_true (by simp only [PyData.depth]; omega)⟩
  | tuple xs =>
    obtain ⟨h1, h2⟩ := flat_lay h.2
    unfold SeqAt.shaped
    rw [Bool.and_eq_true]
    exact ⟨by simpa [PyData.canLay0] using h1, decide_eq_true (by simp only [PyData.depth]; omega)⟩
theorem inV_pairs : ∀ k : Kd, inV (flV (.str k.name)) ([PyData.str "join", .str "glue", .str "back"].map flV) = k.pair := fun k => by cases k <;> decide +kernel
theorem size_ok {i : Int} (h : i.natAbs < 2 ^ 200) : SizeOk i := by
  unfold SizeOk
  by_cases h0 : i.natAbs = 0
  · rw [h0]
    decide
  · have := (Nat.log2_lt h0).mpr h
    omega
theorem asI_ok {xs : List PyData} (h : xs.all flatI = true) (n : Nat) : SizeOk (asI xs[n]?) := by
  cases q : xs[n]? with
  | none => exact size_ok (i := 0) (by decide)
  | some x =>
    have hx := List.all_eq_true.mp h x (List.mem_of_getElem? q)
    cases x with
    | int i => exact size_ok (of_decide_eq_true hx)
    | _ => exact size_ok (i := 0) (by decide)
theorem parse_cons (k : Kd) (as : List PyData) : parse (.tuple (.str k.name :: as)) = if (as.length + 1 == k.sz && as.all isI) = true then some ⟨k, asI as[0]?, asI as[1]?, asI as[2]?⟩ else none := by
  show (kOf k.name).bind _ = _
  rw [kOf_name]
  rfl
def sp_law_stepped (K : PySem.W.Frag) : Sp := spP K (fun a : Row × PyData => [.d (.list (tsD a.1)), .d a.2]) (fun a => tot a.1 ≤ 40000 ∧ RLW a.1 ∧ StOk a.2) fun a => .d (optL (stp a.1 a.2))
-- slots: 0=_law_row 1=_law_step 2=_law_forms 3=_law_at 4=_law_wide 5=_law_found 6=_law_part_here
theorem sc_law_stepped : FnScope ["_law_row", "_law_step", "_law_forms", "_law_at", "_law_wide", "_law_found", "_law_part_here"] ["_law_row", "_law_step"] (defScope s_law_stepped) := C8.fnScope_by (by decide +kernel)
theorem c_law_stepped (T : Tx K mg w) : Cal P w K mg base 4 "_law_stepped" ["_law_row", "_law_step"] (sp_law_stepped K) := by
  refine calG T.e_law_stepped T.g_law_stepped sc_law_stepped (fun _ _ _ _ _ _ us hl => match us, hl with | [_, _], _ => rfl) (fun _ _ => rfl) fun f cdv A outer s H E hr => ?_
  refine ⟨_, (pss_cons (ps_set (i := 2) sc_law_stepped.nd rfl (Or.inl rfl) (pe_disp (pps_cons pe_str pe_int (pps_cons pe_str pe_int (pps_cons pe_str pe_int (pps_cons pe_str pe_int (pps_cons pe_str pe_int (pps_cons pe_str pe_int (pps_cons pe_str pe_int (pps_cons pe_str pe_int (pps_cons pe_str pe_int (pps_cons pe_str pe_int pps_nil)))))))))) (by rfl) (by rfl) (fun z => by cases z) (by decide)))
    (pss_cons (ps_if (PW.pt (pw_or (pt_not (pt_val (pe_callB call_isi (by rfl) T.f_isinstance (by decide +kernel) (pa_cons (pv 1) (pa_cons (pe_bltn (v := .ty "tuple") (by rfl) T.f_tuple (by decide +kernel) rfl) pa_nil))))) (pw_or (pt_cmpR (op_eqD hr.units) (pv 1) (pe_tup pa_nil) (nomark _)) (pw_or (pt_not (pt_val (pe_callB call_isi (by rfl) T.f_isinstance (by decide +kernel) (pa_cons (pe_ix ix_tup (pv 1) pe_int (fun _ _ => rfl)) (pa_cons (pe_bltn (v := .ty "str") (by rfl) T.f_str (by decide +kernel) rfl) pa_nil))))) (pw_or1 (pt_cmpR op_ne (pe_callB call_len_seq (by rfl) T.f_len PySem.boot_len (pa_cons (pv 1) pa_nil)) (pe_dget2 (hu_of hr) (pv 2) (pe_ix ix_tup (pv 1) pe_int (fun _ _ => rfl)) (pe_un un_neg pe_int) ⟨by rfl, by rfl, by rfl, by rfl⟩) (nomark _))))))) (pss_cons (ps_ret pe_non)
    pss_nil) pss_nil)
    (pss_cons (ps_if (pt_not (pt_val (pe_callB (cr_all rfl) (by rfl) T.f_all (by decide +kernel) (pa_cons (pe_lc (te := (tAndV (tCB (rIsi K) (tCons (tVar 6) (tCons (tC (V.ty "int")) tNil))) (tNotV (tCB (rIsi K) (tCons (tVar 6) (tCons (tC (V.ty "bool")) tNil)))))) (own := [("_law_part_here", 6)]) (g := (gName 6)) (tt := tYes) rfl sc_law_stepped.nd (pi_tup (pe_slice sl_tupA (pv 1) (po_some pe_int) po_none)) (blkOk_by (own := [("_law_part_here", 6)]) (N := ["_law_row", "_law_step", "_law_forms", "_law_at", "_law_wide", "_law_found", "_law_part_here"]) (sc := defScope s_law_stepped) (by decide +kernel)) (fun _ _ _ _ _ => (pg_name (i := 6) sc_law_stepped.nd rfl (Or.inl rfl))) (fun _ _ _ _ _ => pts_nil) (fun _ _ _ _ _ => (pe_and (pe_callB call_isi (by rfl) T.f_isinstance (by decide +kernel) (pa_cons (pv 6) (pa_cons (pe_bltn (v := .ty "int") (by rfl) T.f_int (by decide +kernel) rfl) pa_nil))) (pe_one (pe_not (pe_callB call_isi (by rfl) T.f_isinstance (by decide +kernel) (pa_cons (pv 6) (pa_cons (pe_bltn (v := .ty "bool") (by rfl) T.f_bool (by decide +kernel) rfl) pa_nil)))))))) pa_nil)))) (pss_cons (ps_ret pe_non)
    pss_nil) pss_nil)
    (pss_cons (ps_par (i := 3) (j := 4) rfl sc_law_stepped.nd rfl rfl (by decide) rfl rfl (pa_cons (pe_ix ix_tup (pv 1) pe_int (fun _ _ => rfl)) (pa_cons (pe_ifExp (pt_cmpR op_in_seq (pe_ix ix_tup (pv 1) pe_int (fun _ _ => rfl)) (pe_lst (pa_cons pe_str (pa_cons pe_str (pa_cons pe_str pa_nil)))) (by rfl)) pe_int pe_int) pa_nil)) (by rfl))
    (pss_cons (ps_if (PW.pt (pw_or (pt_cmpR op_lt (pv 3) pe_int (nomark _)) (pw_or1 (pt_cmpR op_gt (pe_op op_add (pv 3) (pv 4)) (pe_callB call_len_seq (by rfl) T.f_len PySem.boot_len (pa_cons (pv 0) pa_nil)) (nomark _))))) (pss_cons (ps_ret pe_non)
    pss_nil) pss_nil)
    (pss_cons (ps_set (i := 5) sc_law_stepped.nd rfl (Or.inl rfl) (pe_c (c_law_in_place T) hr (by decide) (by rfl) (pa_cons (pv 1) (pa_cons (pe_ix ix_list (pv 0) (pv 3) (fun _ _ => rfl)) (pa_cons (pe_ix ix_list (pv 0) (pe_op op_sub (pe_op op_add (pv 3) (pv 4)) pe_int) (fun _ _ => rfl)) pa_nil)))))
    (pss_cons (ps_ret (pe_ifExp (pt_cmpR op_isN (pv 5) pe_non (nomark _)) pe_non (pe_op op_cat (pe_op op_cat (pe_slice sl_list (pv 0) po_none (po_some (pv 3))) (pv 5)) (pe_slice sl_list (pv 0) (po_some (pe_op op_add (pv 3) (pv 4))) po_none))))
    pss_nil))))))), ?_⟩
  intro a r F0 H0 D hp R
  dsimp only [nox_K]
  obtain ⟨row, d⟩ := a
  obtain ⟨hl, hb, hst⟩ := hp
  dsimp only at hl hb hst ⊢
  have hsh := shaped_st hst
  have q1 := len_tot row
  apply go_set (w := .o (.dK mF)) (ev_disp tabF (by simp [tabF]))
  have none_of : parse d = none → Go ⟨K, F0, r, H0, Is (.d (optL (stp row d)))⟩ none ((startD 7 [.d (.list (tsD row)), .d d]).set 2 (some (.o (.dK mF)))) (tSeq (tRet (tC .non)) tNext) D := fun h => by
    refine go_retE R rfl ev_non ?_
    unfold stp
    rw [h]
    rfl
  cases d with
  | none =>
    refine go_ifT (et_orT ?_) (none_of rfl)
    · apply et_is; walk_at "et"; rfl
  | bool b => exact False.elim hst
  | int i => exact False.elim hst
  | str i => exact False.elim hst
  | dict i => exact False.elim hst
  | list xs =>
    refine go_ifT (et_orT ?_) (none_of rfl)
    · apply et_is; walk_at "et"; rfl
  | tuple xs =>
    have tup1 : ∀ b : Bool, EvT K r (tNot (tB (tCB (rIsi K) (tCons (tVar 1) (tCons (tC (V.ty "tuple")) tNil))))) ((startD 7 [.d (.list (tsD row)), .d (.tuple xs)]).set 2 (some (.o (.dK mF)))) (IsB false) := fun b => by
      apply et_is; walk_at "et"; rfl
    have emp : EvT K r (tTest (tOp (rEqD K) (tVar 1) (tTup tNil))) ((startD 7 [.d (.list (tsD row)), .d (.tuple xs)]).set 2 (some (.o (.dK mF)))) (IsB (PyData.eqv (.tuple xs) (.tuple []))) :=
      et_test (ev_op (ev_var rfl) (ev_tup (xs := []) ea_nil (by simp)) (rv_eqD rfl hsh rfl))
    cases xs with
    | nil =>
      refine go_ifT (et_orF ?_ (et_orT ?_)) (none_of rfl)
      · apply et_is; walk_at "et"; rfl
      · exact et_is emp rfl
    | cons x as =>
      have emp' := et_is (b := false) emp (by simp [PyData.eqv, PyData.eqvAll])
      by_cases hs : isStr x = true
      · cases x <;> try (cases hs)
        rename_i z
        have hz : z ∈ names12 := by
          have h1 := hst.2
          rw [List.all_cons, Bool.and_eq_true] at h1
          exact of_decide_eq_true h1.1
        have fl : as.all flatI = true := by
          have h1 := hst.2
          rw [List.all_cons, Bool.and_eq_true] at h1
          exact h1.2
        have test4 : EvT K r (tTest (tOp rNe (tCB (fun xs H Q => ∃ p ys, xs = [.ref p] ∧ (SqL K H p ys ∨ SqT K H p ys) ∧ Q (.int ys.length) H) (tCons (tVar 1) tNil)) (tDGet2 (tVar 2) (tOp (rIxT K) (tVar 1) (tC (.int 0))) (tUn (rU fun i => .int (-i)) (tC (.int 1)))))) ((startD 7 [.d (.list (tsD row)), .d (.tuple (.str z :: as))]).set 2 (some (.o (.dK mF)))) (IsB (!((((PyData.str z :: as).length : Nat) : Int) == szI z))) := by
          refine et_test (ev_op (ev_cb (ea_one (ev_var rfl)) rc_lenT) (ev_dget2 (m := mF) (z := z) (d := .int (-1)) (wv := .d (.int (szI z))) (ev_var rfl) ?_ (ev_v (ev_un ev_int ru_neg)) fun H => ?_) rv_neI)
          · walk_at "ev"
          · rw [tabF_at hz]
            exact Rp.int _
        have test3 : EvT K r (tNot (tB (tCB (rIsi K) (tCons (tOp (rIxT K) (tVar 1) (tC (.int 0))) (tCons (tC (V.ty "str")) tNil))))) ((startD 7 [.d (.list (tsD row)), .d (.tuple (.str z :: as))]).set 2 (some (.o (.dK mF)))) (IsB false) := by
          apply et_is; walk_at "et"; rfl
        cases hk : kOf z with
        | none =>
          have hpar : parse (.tuple (.str z :: as)) = none := by
            show (kOf z).bind _ = none
            rw [hk]
            rfl
          refine go_ifT (et_orF (tup1 true) (et_orF emp' (et_orF test3 (et_is test4 ?_)))) (none_of hpar)
          unfold szI
          rw [hk]
          have : ((((PyData.str z :: as).length : Nat) : Int) == -1) = false := by
            apply beq_false_of_ne
            omega
          dsimp only
          rw [this]
          rfl
        | some k =>
          have ek := kOf_some hk
          subst ek
          have hsz : szI k.name = (k.sz : Nat) := by
            unfold szI
            rw [hk]
          have hpar := parse_cons k as
          by_cases hlen : as.length + 1 = k.sz
          · refine go_ifF (et_orF (tup1 true) (et_orF emp' (et_orF test3 (et_is test4 ?_)))) (go_skip ?_)
            · rw [hsz, List.length_cons, hlen, beq_self_eq_true]
              rfl
            have allE : EvT K r (tNot (tTest (tCB (rAll K) (tCons (tLc (iTup K (tSl (rSlA K) (tVar 1) (tPart (tC (.int 1))) tNoPart)) (gName 6) tYes (tAndV (tCB (rIsi K) (tCons (tVar 6) (tCons (tC (V.ty "int")) tNil))) (tNotV (tCB (rIsi K) (tCons (tVar 6) (tCons (tC (V.ty "bool")) tNil))))) [6]) tNil)))) ((startD 7 [.d (.list (tsD row)), .d (.tuple (.str k.name :: as))]).set 2 (some (.o (.dK mF)))) (IsB (!as.all isI)) := by
              refine et_not (et_test (ev_cb (ea_one ?_) rc_allM))
              refine ev_lcmap (ds' := fun d => (wipeD ((startD 7 [.d (.list (tsD row)), .d (.tuple (.str k.name :: as))]).set 2 (some (.o (.dK mF)))) [6]).set 6 (some (.d d))) (fd := fun d => .bool (isI d)) as (gd := id) ?_ ?_ (fun c _ => eg_name (by decide)) fun c _ => ?_
              · rw [List.map_id]
                have h := ei_tup (K := K) (r := r) (ds := (startD 7 [.d (.list (tsD row)), .d (.tuple (.str k.name :: as))]).set 2 (some (.o (.dK mF)))) (xs := cutP (.str k.name :: as) (some 1) none) (te := tSl (rSlA K) (tVar 1) (tPart (tC (V.int 1))) tNoPart) (by walk_at "ev")
                rw [cutP_tail] at h
                exact h
              · have := hst.1
                rw [List.length_cons] at this
                omega
              · have h : Ev K r (tAndV (tCB (rIsi K) (tCons (tVar 6) (tCons (tC (V.ty "int")) tNil))) (tNotV (tCB (rIsi K) (tCons (tVar 6) (tCons (tC (V.ty "bool")) tNil))))) ((wipeD ((startD 7 [.d (.list (tsD row)), .d (.tuple (.str k.name :: as))]).set 2 (some (.o (.dK mF)))) [6]).set 6 (some (.d c))) (Is (.d (.bool (isInt c && !isBool c)))) := by walk_at "ev"
                exact h
            cases hall : as.all isI with
            | false =>
              rw [hall] at allE
              refine go_ifT allE (none_of ?_)
              rw [hpar, hall, Bool.and_false]
              rfl
            | true =>
              rw [hall] at allE
              refine go_ifF allE (go_skip ?_)
              have hc : (as.length + 1 == k.sz && as.all isI) = true := by rw [hlen, hall, beq_self_eq_true]; rfl
              rw [if_pos hc] at hpar
              have hz2 := asI_ok fl 1
              cases as with
              | nil => cases k <;> cases hlen
              | cons y as =>
                obtain ⟨i, rfl⟩ := isI_int (List.all_eq_true.mp hall y (by simp))
                generalize hs' : PSt.mk k (asI (PyData.int i :: as)[0]?) (asI (PyData.int i :: as)[1]?) (asI (PyData.int i :: as)[2]?) = s at hpar
                have hsi : s.i = i := by rw [← hs']; rfl
                have hsk : s.k = k := by rw [← hs']
                have hsa : SizeOk s.a := by rw [← hs']; exact hz2
                have hsd := parse_some hpar
                apply go_par (Pa := IsA [.d (.int i), .d (.int (k.wide : Nat))])
                · refine ea_cons ?_ (ea_one ?_)
                  · walk_at "ev"
                  · refine evn_if (Pb := IsB k.pair) ?_ (fun e => ?_) fun e => ?_
                    · refine et_is (et_test (ev_op (x := .d (.str k.name)) (y := .d (.list [.str "join", .str "glue", .str "back"])) ?_ (ev_lst (xs := [.str "join", .str "glue", .str "back"]) ?_ (by simp)) (rv_inL rfl rfl))) (inV_pairs k)
                      · walk_at "ev"
                      · exact ea_cons ev_str (ea_cons ev_str (ea_one ev_str))
                    · unfold Kd.wide
                      rw [if_pos e.symm]
                      exact ev_int
                    · unfold Kd.wide
                      rw [if_neg (b_ff e.symm)]
                      exact ev_int
                intro ws e
                subst e
                refine ⟨_, _, rfl, ?_⟩
                have estp : stp row (.tuple (.str k.name :: .int i :: as)) = if s.fits row.length = true then stpS row s else none := by
                  unfold stp
                  rw [hpar]
                have efit : s.fits row.length = !(decide (i < 0) || decide (i + (k.wide : Nat) > (row.length : Nat))) := by
                  unfold PSt.fits
                  rw [hsi, hsk]
                  by_cases a1 : 0 ≤ i
                  · by_cases a2 : i ≤ (row.length : Int) - (k.wide : Nat)
                    · rw [decide_eq_true a1, decide_eq_true a2, decide_eq_false (by omega), decide_eq_false (by omega)]; rfl
                    · rw [decide_eq_true a1, decide_eq_false a2, decide_eq_false (by omega), decide_eq_true (by omega)]; rfl
                  · rw [decide_eq_false a1, decide_eq_true (show i < 0 by omega)]; rfl
                apply go_if (b := decide (i < 0) || decide (i + (k.wide : Nat) > (row.length : Nat)))
                · walk_at "et"
                · intro e
                  refine go_retE R rfl ev_non ?_
                  rw [e] at efit
                  show _ = Da.d (optL (stp row _))
                  rw [estp, efit]
                  rfl
                · intro e
                  apply go_skip
                  rw [e] at efit
                  have hf : s.fits row.length = true := efit
                  rw [if_pos hf] at estp
                  obtain ⟨x, y, hx, hy, mx, my, er⟩ := fits_at hf
                  rw [hsi] at hx
                  rw [hsi, hsk] at hy
                  have okx : okW x := ⟨hb x mx, by have := mem_tot mx; omega⟩
                  have oky : okW y := ⟨hb y my, by have := mem_tot my; omega⟩
                  have es := stpS_repl row s
                  rw [er] at es
                  apply go_set (w := .d (optL (act s x y)))
                  · refine ec_law_in_place ?_ okx oky hsa
                    rw [← hsd]
                    walk_at "ea"
                  · cases ha : act s x y with
                    | none =>
                      rw [ha] at es
                      refine go_retE (w' := .d .none) R rfl (evn_if (Pb := IsB true) ?_ (fun _ => ev_non) fun z => nomatch z) ?_
                      · apply et_is; walk_at "et"; rfl
                      · show _ = Da.d (optL (stp row _))
                        rw [estp, es]
                        rfl
                    | some f =>
                      rw [ha, hsi, hsk] at es
                      have q2 : f.length ≤ 3 := act_len3 ha
                      have q3 := cutG_len row none (some i)
                      have q4 := cutG_len row (some (i + k.wide)) none
                      refine go_retE (w' := .d (.list (tsD (cutG row none (some i) ++ f ++ cutG row (some (i + k.wide)) none)))) R rfl (evn_if (Pb := IsB false) ?_ (fun z => nomatch z) fun _ => ?_) ?_
                      · apply et_is; walk_at "et"; rfl
                      · refine ev_op (x := .d (.list (tsD (cutG row none (some i) ++ f)))) (y := .d (.list (tsD (cutG row (some (i + k.wide)) none)))) (ev_op (x := .d (.list (tsD (cutG row none (some i))))) (y := .d (.list (tsD f))) ?_ (ev_var rfl) (rv_catRL ?_)) ?_ (rv_catRL ?_)
                        · walk_at "ev"
                        · omega
                        · walk_at "ev"
                        · rw [List.length_append]; omega
                      · show _ = Da.d (optL (stp row _))
                        rw [estp, es]
                        rfl
          · refine go_ifT (et_orF (tup1 true) (et_orF emp' (et_orF test3 (et_is test4 ?_)))) (none_of ?_)
            · rw [hsz, List.length_cons]
              have : (((as.length + 1 : Nat) : Int) == ((k.sz : Nat) : Int)) = false := by
                apply beq_false_of_ne
                omega
              rw [this]
              rfl
            · rw [hpar, if_neg]
              intro h
              rw [Bool.and_eq_true] at h
              exact hlen (eq_of_beq h.1)
      · have hs' : isStr x = false := by
          cases q : isStr x
          · rfl
          · exact absurd q hs
        refine go_ifT (et_orF (tup1 true) (et_orF emp' (et_orT ?_))) (none_of ?_)
        · apply et_is; walk_at "et"; rw [hs']; rfl
        · cases x <;> first | rfl | cases hs'
theorem ec_law_stepped {row : Row} {d : PyData} (h : EvA K r ta ds (IsA [.d (.list (tsD row)), .d d])) (h1 : tot row ≤ 40000) (h2 : RLW row) (h3 : StOk d) : Ev K r (tCall (sp_law_stepped K) [] E0 ta) ds (Is (.d (optL (stp row d)))) := ev_call (row, d) h rfl ⟨h1, h2, h3⟩
end
end Kn

set_option Elab.async false
set_option linter.all false
set_option maxRecDepth 100000
set_option maxHeartbeats 4000000
/-! Steps made by hand: lists of them. -/
namespace Kn
open PySem PySem.Spec PyProof.Rows L2
local macro_rules | `(tactic| walk_at "sd") => `(tactic| first | trivial | assumption | walk_at "sz")
local macro_rules | `(tactic| walk_at "sz") => `(tactic| first | assumption | decide | omega | rfl | (simp only [List.length_append, List.length_map, List.length_cons, List.length_nil, List.length_reverse]; omega))
local macro_rules | `(tactic| walk_at "rv") => `(tactic| with_reducible first
  | exact rv_ix0 | exact rv_ix1 | exact rv_ix2 | exact rv_eqI | exact rv_neI | exact rv_eqE | exact rv_neE | exact rv_eqW | exact rv_neW | exact rv_eqS | exact rv_neS
  | exact rv_int0 | exact rv_bl0
  | exact rv_ixT0 | exact rv_ixT1
  | exact rv_ixRT (by assumption) | exact rv_ixRL (by assumption) | (apply rv_ixW; walk_at "sz"; assumption)
  | (refine rv_addW ?_; walk_at "sz")
  | (refine rv_catRT ?_; walk_at "sz") | (refine rv_catRL ?_; walk_at "sz")
  | (refine rv_intC ?_; assumption) | (apply rv_mulW; walk_at "sz"; walk_at "sz"; walk_at "sz")
  | exact rv_inW | exact rv_inSign | exact rv_isN | exact rv_notN | exact rv_notBl
  | exact rv_ixT (by with_unfolding_all rfl) | exact rv_ixL (by with_unfolding_all rfl)
  | exact rv_ixT (by assumption) | exact rv_ixL (by assumption)
  | (refine rv_catA ?_; walk_at "sz") | (refine rv_cat ?_; walk_at "sz"))
local macro_rules | `(tactic| walk_at "rs") => `(tactic| with_reducible first
  | exact rs_rT | exact rs_rL
  | (refine rs_w ?_ ?_; walk_at "sz"; (with_unfolding_all first | exact Nat.zero_le _ | exact HT.sIx_le _ _ (Nat.zero_le _) _ | assumption))
  | exact rs_tup | exact rs_list
  | (refine rs_str ?_; walk_at "sz"))
local macro_rules | `(tactic| walk_at "rc") => `(tactic| with_reducible first
  | exact rc_lenD3 | exact rc_lenRT | exact rc_lenRL | exact rc_lenT | exact rc_lenL | (refine rc_lenW ?_; walk_at "sz") | (refine rc_lenS ?_; walk_at "sz")
  | exact rc_isi (kit_int _) | exact rc_isi (kit_bool _) | exact rc_isi (kit_str _) | exact rc_isi (kit_tup _)
  | exact rc_max | exact rc_min | exact rc_int | exact rc_abs | exact rc_all | exact rc_tupL | exact rc_tupT | exact rc_list | exact rc_listT | (refine rc_listW ?_; walk_at "sz"))
local macro_rules | `(tactic| walk_at "rm") => `(tactic| first | (with_reducible apply rm_lowW; assumption; walk_at "sz") | (with_reducible apply rm_upW; assumption; walk_at "sz"))
local macro_rules | `(tactic| walk_at "ea") => `(tactic| first
  | with_reducible exact ea_nil
  | ((with_reducible apply ea_cons); walk_at "ev"; walk_at "ea"))
local macro_rules | `(tactic| walk_at "eo") => `(tactic| first
  | with_reducible exact eo_none
  | ((with_reducible apply eo_some); walk_at "ev"))
local macro_rules | `(tactic| walk_at "et") => `(tactic| first
  | ((with_reducible apply et_test); walk_at "ev")
  | ((with_reducible apply et_B); walk_at "ev")
  | ((with_reducible apply et_not); walk_at "et")
  | ((with_reducible apply et_and); walk_at "et"; intro _; walk_at "et")
  | ((with_reducible apply et_or); walk_at "et"; intro _; walk_at "et"))
local macro_rules | `(tactic| walk_at "ev") => `(tactic| first
  | with_reducible exact ev_int | with_reducible exact ev_str | with_reducible exact ev_bl | with_reducible exact ev_non | with_reducible exact ev_val
  | ((with_reducible apply ev_var); exact rfl)
  | ((with_reducible apply ev_op); walk_at "ev"; walk_at "ev"; walk_at "rv")
  | ((with_reducible apply ev_un); walk_at "ev"; exact ru_neg)
  | ((with_reducible apply ev_and); walk_at "ev"; intro _; walk_at "ev")
  | ((with_reducible apply ev_or); walk_at "ev"; intro _; walk_at "ev")
  | ((with_reducible apply ev_not); walk_at "ev")
  | ((with_reducible apply ev_sl); walk_at "ev"; walk_at "eo"; walk_at "eo"; walk_at "rs")
  | ((with_reducible apply ev_chain); walk_at "ev"; walk_at "ev"; walk_at "rv"; (intro _; walk_at "ev"); (intro _; walk_at "rv"))
  | walk_at "ec"
  | ((with_reducible apply ev_if); walk_at "et"; (intro _; walk_at "ev"); (intro _; walk_at "ev"))
  | ((with_reducible apply ev_m0); walk_at "ev"; walk_at "rm")
  | ((with_reducible apply ev_cb); walk_at "ea"; walk_at "rc")
  | ((with_reducible apply ev_tD); walk_at "ea")
  | with_reducible exact ev_rT0 | with_reducible exact ev_rL0
  | ((with_reducible apply ev_rT1); walk_at "ea") | ((with_reducible apply ev_rT2); walk_at "ea") | ((with_reducible apply ev_rT3); walk_at "ea")
  | ((with_reducible apply ev_rL1); walk_at "ea") | ((with_reducible apply ev_rL2); walk_at "ea") | ((with_reducible apply ev_rL3); walk_at "ea") | ((with_reducible apply ev_rL4); walk_at "ea")
  | ((with_reducible apply ev_revW); walk_at "ev"; walk_at "sz")
  | ((with_reducible apply ev_revL); walk_at "ev")
  | ((with_reducible apply ev_revT); walk_at "ev"))
local macro_rules | `(tactic| walk_at "ret") => `(tactic| (apply go_retE; assumption; exact rfl; walk_at "ev"))
local macro_rules | `(tactic| walk_at "if") => `(tactic| (apply go_if; walk_at "et"))
local macro_rules | `(tactic| walk_at "set") => `(tactic| (apply go_set; walk_at "ev"))
local macro_rules | `(tactic| walk_at "eg") => `(tactic| first | exact eg_name (by decide) | exact eg_tD (by decide) (by decide) (by decide))
local macro_rules | `(tactic| walk_at "ec") => `(tactic| first | ((with_reducible apply ec_law_stepped); walk_at "ea"; walk_at "sd"; walk_at "sd"; walk_at "sd"))
/-- a step made by hand -/
abbrev HS := Kd × List Int
def hD (s : HS) : PyData := .tuple (.str s.1.name :: s.2.map PyData.int)
def hsD (l : List HS) : List PyData := l.map hD
def melt (i : Int) (n : Nat) : List HS := (List.range n).reverse.map (fun (k : Nat) => (Kd.undo, [i, (k : Int)])) ++ [(.out, [i])]
def mov (n : Int) : HS → HS
  | (k, i :: r) => (k, (i + n) :: r)
  | (k, []) => (k, [])
section
variable {P : Program} {w w' : World} {K K' : PySem.W.Frag} {mg : Str → Option Value} {base : Heap} {r : Res} {ds : Sl} {ta : TA}
def sp_law_behind (K : PySem.W.Frag) : Sp := spP K (fun a : Row × List PyData => [.d (.list (tsD a.1)), .d (.tuple a.2)]) (fun a => Fit a.1 a.2 ∧ a.2.length ≤ 10000) fun a => .d (optL (stps a.1 a.2))
-- slots: 0=_law_row 1=_law_steps 2=_law_now 3=_law_step
theorem sc_law_behind : FnScope ["_law_row", "_law_steps", "_law_now", "_law_step"] ["_law_row", "_law_steps"] (defScope s_law_behind) := C8.fnScope_by (by decide +kernel)
theorem c_law_behind (T : Tx K mg w) : Cal P w K mg base 5 "_law_behind" ["_law_row", "_law_steps"] (sp_law_behind K) := by
  refine calG T.e_law_behind T.g_law_behind sc_law_behind (fun _ _ _ _ _ _ us hl => match us, hl with | [_, _], _ => rfl) (fun _ _ => rfl) fun f cdv A outer s H E hr => ?_
  refine ⟨_, (pss_cons (ps_set (i := 2) sc_law_behind.nd rfl (Or.inl rfl) (pe_ifExp (pt_val (pe_callB call_isi (by rfl) T.f_isinstance (by decide +kernel) (pa_cons (pv 1) (pa_cons (pe_bltn (v := .ty "tuple") (by rfl) T.f_tuple (by decide +kernel) rfl) pa_nil)))) (pe_callTy call_list_of (by rfl) T.f_list (by decide +kernel) (pa_cons (pv 0) pa_nil)) pe_non))
    (pss_cons (ps_for PassesOwn.never rfl (pi_tup (pe_ifExp (pt_val (pe_callB call_isi (by rfl) T.f_isinstance (by decide +kernel) (pa_cons (pv 1) (pa_cons (pe_bltn (v := .ty "tuple") (by rfl) T.f_tuple (by decide +kernel) rfl) pa_nil)))) (pv 1) (pe_tup pa_nil))) (pg_name (i := 3) sc_law_behind.nd rfl (Or.inl rfl)) (pss_cons (ps_set (i := 2) sc_law_behind.nd rfl (Or.inl rfl) (pe_ifExp (pt_cmpR op_isN (pv 2) pe_non (nomark _)) pe_non (pe_c (c_law_stepped T) hr (by decide) (by rfl) (pa_cons (pv 2) (pa_cons (pv 3) pa_nil)))))
    pss_nil))
    (pss_cons (ps_ret (pv 2))
    pss_nil))), ?_⟩
  intro a r F0 H0 D hp R
  dsimp only [nox_K]
  obtain ⟨row, l⟩ := a
  obtain ⟨hfit, hlen⟩ := hp
  dsimp only at hfit hlen ⊢
  apply go_set (w := .d (.list (tsD row)))
  · refine evn_if (Pb := IsB true) ?_ (fun _ => ?_) fun z => nomatch z
    · apply et_is; walk_at "et"; rfl
    · walk_at "ev"
  refine go_for (vs := [3]) (xs := l) R (fun i o ds => o = none ∧ ∃ (sl : Option Da), ds = [some (.d (.list (tsD row))), some (.d (.tuple l)), some (.d (optL (stps row (l.take i)))), sl]) (ei_tup (xs := l) ?_) ⟨rfl, none, rfl⟩ ?_ ?_
  · refine evn_if (Pb := IsB true) ?_ (fun _ => ?_) fun z => nomatch z
    · apply et_is; walk_at "et"; rfl
    · exact ev_var rfl
  · rintro H1 i d o' ds' hd _ ⟨rfl, sl, rfl⟩
    refine ⟨_, eg_name (by decide), fun D' R' nx => ?_⟩
    have hi := (List.getElem?_eq_some_iff.mp hd).1
    have htk : l.take (i + 1) = l.take i ++ [d] := by
      rw [List.take_add_one, hd]
      rfl
    have e2 : stps row (l.take (i + 1)) = (stps row (l.take i)).bind fun r1 => stp r1 d := by
      rw [htk, stps_app]
      cases stps row (l.take i) with
      | none => rfl
      | some r1 =>
        show stps r1 [d] = _
        rw [stps_cons]
        cases h : stp r1 d with
        | none => exact h.symm
        | some r2 => exact h.symm
    apply go_set (w := .d (optL (stps row (l.take (i + 1)))))
    · rw [e2]
      cases q : stps row (l.take i) with
      | none =>
        refine evn_if (Pb := IsB true) ?_ (fun _ => ev_non) fun z => nomatch z
        · apply et_is; walk_at "et"; rfl
      | some r1 =>
        have hf : Fit row (l.take i ++ l.drop i) := by rw [List.take_append_drop]; exact hfit
        have f1 := hf.steps q
        have hdr : l.drop i = d :: l.drop (i + 1) := by
          rw [List.drop_eq_getElem_cons hi, (List.getElem?_eq_some_iff.mp hd).2]
        rw [hdr] at f1
        refine evn_if (Pb := IsB false) ?_ (fun z => nomatch z) fun _ => ?_
        · apply et_is; walk_at "et"; rfl
        · refine ec_law_stepped (row := r1) ?_ f1.tot' f1.lw (f1.st d List.mem_cons_self)
          walk_at "ea"
    · exact go_next (nx none _ rfl ⟨rfl, _, rfl⟩)
  · rintro o' ds' _ ⟨rfl, sl, rfl⟩
    refine go_retE R rfl (ev_var rfl) ?_
    rw [List.take_length]
theorem ec_law_behind {row : Row} {l : List PyData} (h : EvA K r ta ds (IsA [.d (.list (tsD row)), .d (.tuple l)])) (h1 : Fit row l) (h2 : l.length ≤ 10000) : Ev K r (tCall (sp_law_behind K) [] E0 ta) ds (Is (.d (optL (stps row l)))) := ev_call (row, l) h rfl ⟨h1, h2⟩
theorem ev_hD2 {k : Kd} {ta : TA} {i : Int} (h : EvA K r ta ds (IsA [.d (.str k.name), .d (.int i)])) : Ev K r (tTup ta) ds (Is (.d (hD (k, [i])))) := ev_tup (xs := [.str k.name, .int i]) h (by simp)
theorem ev_hD3 {k : Kd} {ta : TA} {i j : Int} (h : EvA K r ta ds (IsA [.d (.str k.name), .d (.int i), .d (.int j)])) : Ev K r (tTup ta) ds (Is (.d (hD (k, [i, j])))) := ev_tup (xs := [.str k.name, .int i, .int j]) h (by simp)
def sp_law_melt (K : PySem.W.Frag) : Sp := spP K (fun a : Int × Nat => [.d (.int a.1), .d (.int (a.2 : Nat))]) (fun a => a.2 ≤ 1000) fun a => .d (.list (hsD (melt a.1 a.2)))
-- slots: 0=_law_at 1=_law_many 2=_law_spot
theorem sc_law_melt : FnScope ["_law_at", "_law_many", "_law_spot"] ["_law_at", "_law_many"] (defScope s_law_melt) := C8.fnScope_by (by decide +kernel)
theorem c_law_melt (T : Tx K mg w) : Cal P w K mg base 1 "_law_melt" ["_law_at", "_law_many"] (sp_law_melt K) := by
  refine calG T.e_law_melt T.g_law_melt sc_law_melt (fun _ _ _ _ _ _ us hl => match us, hl with | [_, _], _ => rfl) (fun _ _ => rfl) fun f cdv A outer s H E hr => ?_
  refine ⟨_, (pss_cons (ps_ret (pe_op op_cat (pe_lc (te := (tTup (tCons _ (tCons (tVar 0) (tCons (tVar 2) tNil))))) (own := [("_law_spot", 2)]) (g := (gName 2)) (tt := tYes) rfl sc_law_melt.nd (pi_list (pe_revL (pe_listRg rfl (by rfl) T.f_list (prg_1 (by rfl) T.f_range (pv 1))))) (blkOk_by (own := [("_law_spot", 2)]) (N := ["_law_at", "_law_many", "_law_spot"]) (sc := defScope s_law_melt) (by decide +kernel)) (fun _ _ _ _ _ => (pg_name (i := 2) sc_law_melt.nd rfl (Or.inl rfl))) (fun _ _ _ _ _ => pts_nil) (fun _ _ _ _ _ => (pe_tup (pa_cons pe_str (pa_cons (pv 0) (pa_cons (pv 2) pa_nil)))))) (pe_lst (pa_cons (pe_tup (pa_cons pe_str (pa_cons (pv 0) pa_nil))) pa_nil))))
    pss_nil), ?_⟩
  intro a r F0 H0 D hp R
  dsimp only [nox_K]
  obtain ⟨i, n⟩ := a
  dsimp only at hp ⊢
  have hrev : (rangeP (n : Int)).reverse = (List.range n).reverse.map fun k => PyData.int (k : Nat) := by
    unfold rangeP
    rw [← List.map_reverse, Int.toNat_natCast]
  refine go_retE R rfl (ev_op (ev_lcmap (ds' := fun k => [some (.d (.int i)), some (.d (.int (n : Nat))), some (.d (.int (k : Nat)))]) (gd := fun k => .int (k : Nat)) (fd := fun k => hD (.undo, [i, (k : Int)])) (List.range n).reverse ?_ (by rw [List.length_reverse, List.length_range]; omega) (fun c _ => eg_name (by decide)) fun c _ => ?_) (ev_lst (xs := [hD (.out, [i])]) (ea_one ?_) (by simp)) (rv_cat ?_)) ?_
  · rw [← hrev]
    exact ei_list (ev_revL (ev_listRg (ev_var rfl) (by omega) (by omega)))
  · exact ev_hD3 (k := .undo) (ea_cons ev_str (ea_cons (ev_var rfl) (ea_one (ev_var rfl))))
  · exact ev_hD2 (k := .out) (ea_cons ev_str (ea_one (ev_var rfl)))
  · rw [List.length_map, List.length_reverse, List.length_range]
    show _ + 1 ≤ _
    omega
  · unfold hsD melt
    rw [List.map_append, List.map_map]
    rfl
theorem ec_law_melt {i : Int} {n : Nat} (h : EvA K r ta ds (IsA [.d (.int i), .d (.int (n : Nat))])) (h1 : n ≤ 1000) : Ev K r (tCall (sp_law_melt K) [] E0 ta) ds (Is (.d (.list (hsD (melt i n))))) := ev_call (i, n) h rfl h1
def sp_law_moved (K : PySem.W.Frag) : Sp := spP K (fun a : List HS × Int => [.d (.list (hsD a.1)), .d (.int a.2)]) (fun a => a.1.length ≤ 1000 ∧ ∀ s ∈ a.1, s.2 ≠ [] ∧ s.2.length ≤ 10) fun a => .d (.list (hsD (a.1.map (mov a.2))))
-- slots: 0=_law_steps 1=_law_many 2=_law_step
theorem sc_law_moved : FnScope ["_law_steps", "_law_many", "_law_step"] ["_law_steps", "_law_many"] (defScope s_law_moved) := C8.fnScope_by (by decide +kernel)
theorem c_law_moved (T : Tx K mg w) : Cal P w K mg base 1 "_law_moved" ["_law_steps", "_law_many"] (sp_law_moved K) := by
  refine calG T.e_law_moved T.g_law_moved sc_law_moved (fun _ _ _ _ _ _ us hl => match us, hl with | [_, _], _ => rfl) (fun _ _ => rfl) fun f cdv A outer s H E hr => ?_
  refine ⟨_, (pss_cons (ps_ret (pe_lc (te := (tOp (rCatA K) (tTup (tCons (tOp (rIxT K) (tVar 2) _) (tCons (tOp _ (tOp (rIxT K) (tVar 2) _) (tVar 1)) tNil))) (L2.tSl (rSlA K) (tVar 2) (tPart _) tNoPart))) (own := [("_law_step", 2)]) (g := (gName 2)) (tt := tYes) rfl sc_law_moved.nd (pi_list (pv 0)) (blkOk_by (own := [("_law_step", 2)]) (N := ["_law_steps", "_law_many", "_law_step"]) (sc := defScope s_law_moved) (by decide +kernel)) (fun _ _ _ _ _ => (pg_name (i := 2) sc_law_moved.nd rfl (Or.inl rfl))) (fun _ _ _ _ _ => pts_nil) (fun _ _ _ _ _ => (pe_op op_catA (pe_tup (pa_cons (pe_ix ix_tup (pv 2) pe_int (fun _ _ => rfl)) (pa_cons (pe_op op_add (pe_ix ix_tup (pv 2) pe_int (fun _ _ => rfl)) (pv 1)) pa_nil))) (pe_slice sl_tupA (pv 2) (po_some pe_int) po_none)))))
    pss_nil), ?_⟩
  intro a r F0 H0 D hp R
  dsimp only [nox_K]
  obtain ⟨l, n⟩ := a
  obtain ⟨hl, hs⟩ := hp
  dsimp only at hl hs ⊢
  refine go_retE R rfl (ev_lcmap (ds' := fun s => [some (.d (.list (hsD l))), some (.d (.int n)), some (.d (hD s))]) (gd := hD) (fd := fun s => hD (mov n s)) l (ei_list (ev_var rfl)) (by omega) (fun c _ => eg_name (by decide)) fun s hm => ?_) ?_
  · obtain ⟨k, as⟩ := s
    obtain ⟨h1, h2⟩ := hs _ hm
    cases as with
    | nil => exact absurd rfl h1
    | cons i as =>
      show Ev K r _ [some (.d (.list (hsD l))), some (.d (.int n)), some (.d (.tuple (.str k.name :: .int i :: as.map PyData.int)))] (Is (.d (.tuple ([.str k.name, .int (i + n)] ++ as.map PyData.int))))
      refine ev_op (ev_tup (xs := [.str k.name, .int (i + n)]) ?_ (by simp)) (ev_is (ev_sl (lo := some 2) (hi := none) (w := .d (.tuple (.str k.name :: .int i :: as.map PyData.int))) (ev_var rfl) (eo_some ev_int) eo_none rs_tup) (w := .d (.tuple (as.map PyData.int))) ?_) (rv_catA ?_)
      · show EvA _ _ _ _ (IsA [.d (.str k.name), .d (.int (i + n))])
        walk_at "ea"
      · have h := cutG_drop (PyData.str k.name :: .int i :: as.map PyData.int) 2
        exact congrArg (fun z => Da.d (PyData.tuple z)) h
      · rw [List.length_map]
        rw [List.length_cons] at h2
        show 2 + _ ≤ _
        omega
  · unfold hsD
    rw [List.map_map]
    rfl
theorem ec_law_moved {l : List HS} {n : Int} (h : EvA K r ta ds (IsA [.d (.list (hsD l)), .d (.int n)])) (h1 : l.length ≤ 1000) (h2 : ∀ s ∈ l, s.2 ≠ [] ∧ s.2.length ≤ 10) : Ev K r (tCall (sp_law_moved K) [] E0 ta) ds (Is (.d (.list (hsD (l.map (mov n)))))) := ev_call (l, n) h rfl ⟨h1, h2⟩
def faceB (t : Tr) : Bool := decide (t.2.1 < 0) || (t.2.1 == 0 && decide (t.2.2 < 0))
def faced (l : Row) : List HS := ((List.range l.length).filter fun i => (l[i]?.map faceB).getD false).map fun (i : Nat) => (Kd.turn, [(i : Int)])
def sp_law_faced (K : PySem.W.Frag) : Sp := spP K (fun l : Row => [.d (.list (tsD l))]) (fun l => l.length ≤ 1000) fun l => .d (.list (hsD (faced l)))
-- slots: 0=_law_row 1=_law_at
theorem sc_law_faced : FnScope ["_law_row", "_law_at"] ["_law_row"] (defScope s_law_faced) := C8.fnScope_by (by decide +kernel)
theorem c_law_faced (T : Tx K mg w) : Cal P w K mg base 1 "_law_faced" ["_law_row"] (sp_law_faced K) := by
  refine calG T.e_law_faced T.g_law_faced sc_law_faced (fun _ _ _ _ _ _ us hl => match us, hl with | [_], _ => rfl) (fun _ _ => rfl) fun f cdv A outer s H E hr => ?_
  refine ⟨_, (pss_cons (ps_ret (pe_lc (te := (tTup (tCons _ (tCons (tVar 1) tNil)))) (own := [("_law_at", 1)]) (g := (gName 1)) (tt := (tOr (tTest (tOp _ (tOp (rIxT K) (tOp (rIxL K) (tVar 0) (tVar 1)) _) _)) (tAnd (tTest (tOp _ (tOp (rIxT K) (tOp (rIxL K) (tVar 0) (tVar 1)) _) _)) (tTest (tOp _ (tOp (rIxT K) (tOp (rIxL K) (tVar 0) (tVar 1)) _) _))))) rfl sc_law_faced.nd (pi_range1 (by rfl) T.f_range (pa_cons (pe_callB call_len_seq (by rfl) T.f_len PySem.boot_len (pa_cons (pv 0) pa_nil)) pa_nil)) (blkOk_by (own := [("_law_at", 1)]) (N := ["_law_row", "_law_at"]) (sc := defScope s_law_faced) (by decide +kernel)) (fun _ _ _ _ _ => (pg_name (i := 1) sc_law_faced.nd rfl (Or.inl rfl))) (fun _ _ _ _ _ => (pts_one (PW.pt (pw_or (pt_cmpR op_lt (pe_ix ix_tup (pe_ix ix_list (pv 0) (pv 1) (fun _ _ => rfl)) pe_int (fun _ _ => rfl)) pe_int (nomark _)) (pw_or1 (PW.pt (pw_and (pt_cmpR op_eq (pe_ix ix_tup (pe_ix ix_list (pv 0) (pv 1) (fun _ _ => rfl)) pe_int (fun _ _ => rfl)) pe_int (nomark _)) (pw_and1 (pt_cmpR op_lt (pe_ix ix_tup (pe_ix ix_list (pv 0) (pv 1) (fun _ _ => rfl)) pe_int (fun _ _ => rfl)) pe_int (nomark _)))))))))) (fun _ _ _ _ _ => (pe_tup (pa_cons pe_str (pa_cons (pv 1) pa_nil))))))
    pss_nil), ?_⟩
  intro a r F0 H0 D hp R
  dsimp only [nox_K]
  refine go_ret R (P := Is (.d (.list (hsD (faced a))))) (evn_lc (vs := [1]) (xs := rangeP (a.length : Int)) (fun i acc => acc = hsD (((List.range i).filter fun i => (a[i]?.map faceB).getD false).map fun (i : Nat) => (Kd.turn, [(i : Int)]))) (ei_range (ea_one ?_) (by omega) (by omega)) rfl ?_ ?_ ?_ ?_) fun w e => e
  · walk_at "ev"
  · unfold rangeP
    rw [List.length_map, List.length_range]
    omega
  · rintro i acc rfl
    unfold hsD
    rw [List.length_map, List.length_map]
    exact Nat.le_trans (List.length_filter_le _ _) (Nat.le_of_eq List.length_range)
  · rintro i d acc hd rfl
    unfold rangeP at hd
    rw [List.getElem?_map, Int.toNat_natCast] at hd
    have hi : i < a.length := by
      by_cases h : i < a.length
      · exact h
      · rw [List.getElem?_eq_none (by rw [List.length_range]; omega)] at hd
        cases hd
    rw [List.getElem?_range hi] at hd
    cases hd
    have hx : atI a (i : Int) = some a[i] := atI_nat hi
    have hg : (a[i]?.map faceB).getD false = faceB a[i] := by
      rw [List.getElem?_eq_getElem hi]
      rfl
    refine ⟨[some (.d (.list (tsD a))), some (.d (.int (i : Nat)))], eg_name (by decide), faceB a[i], ?_, fun e => ?_, fun e => ?_⟩
    · apply et_is
      · walk_at "et"
      · rfl
    · refine (ev_hD2 (k := .turn) (i := (i : Int)) (ea_cons ev_str (ea_one (ev_var rfl)))).imp fun w ew => ⟨_, ew, ?_⟩
      rw [List.range_succ, List.filter_append, List.filter_cons, hg, e, if_pos rfl]
      unfold hsD
      rw [List.map_append, List.map_append]
      rfl
    · rw [List.range_succ, List.filter_append, List.filter_cons, hg, e, if_neg Bool.false_ne_true]
      show hsD _ = hsD _
      rw [List.filter_nil, List.append_nil]
  · rintro acc rfl
    unfold rangeP
    rw [List.length_map, List.length_range, Int.toNat_natCast]
    rfl
theorem ec_law_faced {l : Row} (h : EvA K r ta ds (IsA [.d (.list (tsD l))])) (h1 : l.length ≤ 1000) : Ev K r (tCall (sp_law_faced K) [] E0 ta) ds (Is (.d (.list (hsD (faced l))))) := ev_call l h rfl h1
end
end Kn

set_option Elab.async false
set_option linter.all false
set_option maxRecDepth 100000
set_option maxHeartbeats 4000000
/-! Rows of single letters: what lasts. -/
namespace Kn
open PySem PySem.Spec PyProof.Rows L2
local macro_rules | `(tactic| walk_at "sd") => `(tactic| first | trivial | assumption | walk_at "sz")
local macro_rules | `(tactic| walk_at "sz") => `(tactic| first | assumption | decide | omega | rfl | (simp only [List.length_append, List.length_map, List.length_cons, List.length_nil, List.length_reverse]; omega))
local macro_rules | `(tactic| walk_at "rv") => `(tactic| with_reducible first
  | exact rv_ix0 | exact rv_ix1 | exact rv_ix2 | exact rv_eqI | exact rv_neI | exact rv_eqE | exact rv_neE | exact rv_eqW | exact rv_neW | exact rv_eqS | exact rv_neS
  | exact rv_int0 | exact rv_bl0
  | exact rv_ixT0 | exact rv_ixT1
  | exact rv_ixRT (by assumption) | exact rv_ixRL (by assumption) | (apply rv_ixW; walk_at "sz"; assumption)
  | (refine rv_addW ?_; walk_at "sz")
  | (refine rv_catRT ?_; walk_at "sz") | (refine rv_catRL ?_; walk_at "sz")
  | (refine rv_intC ?_; assumption) | (apply rv_mulW; walk_at "sz"; walk_at "sz"; walk_at "sz")
  | exact rv_inW | exact rv_inSign | exact rv_isN | exact rv_notN | exact rv_notBl
  | exact rv_ixT (by with_unfolding_all rfl) | exact rv_ixL (by with_unfolding_all rfl)
  | exact rv_ixT (by assumption) | exact rv_ixL (by assumption)
  | (refine rv_catA ?_; walk_at "sz") | (refine rv_cat ?_; walk_at "sz"))
local macro_rules | `(tactic| walk_at "rs") => `(tactic| with_reducible first
  | exact rs_rT | exact rs_rL
  | (refine rs_w ?_ ?_; walk_at "sz"; (with_unfolding_all first | exact Nat.zero_le _ | exact HT.sIx_le _ _ (Nat.zero_le _) _ | assumption))
  | exact rs_tup | exact rs_list
  | (refine rs_str ?_; walk_at "sz"))
local macro_rules | `(tactic| walk_at "rc") => `(tactic| with_reducible first
  | exact rc_lenD3 | exact rc_lenRT | exact rc_lenRL | exact rc_lenT | exact rc_lenL | (refine rc_lenW ?_; walk_at "sz") | (refine rc_lenS ?_; walk_at "sz")
  | exact rc_isi (kit_int _) | exact rc_isi (kit_bool _) | exact rc_isi (kit_str _) | exact rc_isi (kit_tup _)
  | exact rc_max | exact rc_min | exact rc_int | exact rc_abs | exact rc_all | exact rc_tupL | exact rc_tupT | exact rc_list | exact rc_listT | (refine rc_listW ?_; walk_at "sz"))
local macro_rules | `(tactic| walk_at "rm") => `(tactic| first | (with_reducible apply rm_lowW; assumption; walk_at "sz") | (with_reducible apply rm_upW; assumption; walk_at "sz"))
local macro_rules | `(tactic| walk_at "ea") => `(tactic| first
  | with_reducible exact ea_nil
  | ((with_reducible apply ea_cons); walk_at "ev"; walk_at "ea"))
local macro_rules | `(tactic| walk_at "eo") => `(tactic| first
  | with_reducible exact eo_none
  | ((with_reducible apply eo_some); walk_at "ev"))
local macro_rules | `(tactic| walk_at "et") => `(tactic| first
  | ((with_reducible apply et_test); walk_at "ev")
  | ((with_reducible apply et_B); walk_at "ev")
  | ((with_reducible apply et_not); walk_at "et")
  | ((with_reducible apply et_and); walk_at "et"; intro _; walk_at "et")
  | ((with_reducible apply et_or); walk_at "et"; intro _; walk_at "et"))
local macro_rules | `(tactic| walk_at "ev") => `(tactic| first
  | with_reducible exact ev_int | with_reducible exact ev_str | with_reducible exact ev_bl | with_reducible exact ev_non | with_reducible exact ev_val
  | ((with_reducible apply ev_var); exact rfl)
  | ((with_reducible apply ev_op); walk_at "ev"; walk_at "ev"; walk_at "rv")
  | ((with_reducible apply ev_un); walk_at "ev"; exact ru_neg)
  | ((with_reducible apply ev_and); walk_at "ev"; intro _; walk_at "ev")
  | ((with_reducible apply ev_or); walk_at "ev"; intro _; walk_at "ev")
  | ((with_reducible apply ev_not); walk_at "ev")
  | ((with_reducible apply ev_sl); walk_at "ev"; walk_at "eo"; walk_at "eo"; walk_at "rs")
  | ((with_reducible apply ev_chain); walk_at "ev"; walk_at "ev"; walk_at "rv"; (intro _; walk_at "ev"); (intro _; walk_at "rv"))
  | walk_at "ec"
  | ((with_reducible apply ev_if); walk_at "et"; (intro _; walk_at "ev"); (intro _; walk_at "ev"))
  | ((with_reducible apply ev_m0); walk_at "ev"; walk_at "rm")
  | ((with_reducible apply ev_cb); walk_at "ea"; walk_at "rc")
  | ((with_reducible apply ev_tD); walk_at "ea")
  | with_reducible exact ev_rT0 | with_reducible exact ev_rL0
  | ((with_reducible apply ev_rT1); walk_at "ea") | ((with_reducible apply ev_rT2); walk_at "ea") | ((with_reducible apply ev_rT3); walk_at "ea")
  | ((with_reducible apply ev_rL1); walk_at "ea") | ((with_reducible apply ev_rL2); walk_at "ea") | ((with_reducible apply ev_rL3); walk_at "ea") | ((with_reducible apply ev_rL4); walk_at "ea")
  | ((with_reducible apply ev_revW); walk_at "ev"; walk_at "sz")
  | ((with_reducible apply ev_revL); walk_at "ev")
  | ((with_reducible apply ev_revT); walk_at "ev"))
local macro_rules | `(tactic| walk_at "ret") => `(tactic| (apply go_retE; assumption; exact rfl; walk_at "ev"))
local macro_rules | `(tactic| walk_at "if") => `(tactic| (apply go_if; walk_at "et"))
local macro_rules | `(tactic| walk_at "set") => `(tactic| (apply go_set; walk_at "ev"))
local macro_rules | `(tactic| walk_at "eg") => `(tactic| first | exact eg_name (by decide) | exact eg_tD (by decide) (by decide) (by decide))
/-- a single letter's triple -/
abbrev LT := Nat × Int × Int
def up (t : LT) : Tr := ([t.1], t.2.1, t.2.2)
def upR (l : List LT) : Row := l.map up
def LOk (l : List LT) : Prop := ∀ t ∈ l, t.1 ∈ Lt
theorem LOk.rlw {l : List LT} (h : LOk l) : RLW (upR l) := fun t ht => by
  obtain ⟨x, hx, rfl⟩ := List.mem_map.mp ht
  exact lw1 (h x hx)
def lowT (t : LT) : LT := if ([t.1] == [PyProof.Rows.lo1 t.1]) = true then (PyProof.Rows.lo1 t.1, t.2.1, t.2.2) else (PyProof.Rows.lo1 t.1, -t.2.1, -t.2.2)
def addT (st : List LT) (t : LT) : List LT := if (!(t.2.1 == 0) || !(t.2.2 == 0)) = true then t :: st else st
def pushT (st : List LT) (t : LT) : List LT := match st with
  | [] => addT [] (lowT t)
  | a :: st' => if ([a.1] == [PyProof.Rows.lo1 t.1]) = true then addT st' ((lowT t).1, (lowT t).2.1 + a.2.1, (lowT t).2.2 + a.2.2) else addT (a :: st') (lowT t)
def lastT (l : List LT) : List LT := l.foldl pushT []
theorem lo1_lt : ∀ c ∈ Lt, PyProof.Rows.lo1 c ∈ Lt := by decide
theorem lowT_1 (t : LT) : (lowT t).1 = PyProof.Rows.lo1 t.1 := by unfold lowT; split <;> rfl
theorem addT_ok {st : List LT} {t : LT} (h : LOk st) (ht : t.1 ∈ Lt) : LOk (addT st t) := by
  unfold addT
  split
  · intro x hx
    rcases List.mem_cons.mp hx with e | e
    · rw [e]; exact ht
    · exact h x e
  · exact h
theorem addT_len (st : List LT) (t : LT) : (addT st t).length ≤ st.length + 1 := by
  unfold addT
  split
  · exact Nat.le_refl _
  · omega
theorem pushT_ok {st : List LT} {t : LT} (h : LOk st) (ht : t.1 ∈ Lt) : LOk (pushT st t) := by
  have hl : (lowT t).1 ∈ Lt := by rw [lowT_1]; exact lo1_lt _ ht
  unfold pushT
  split
  · exact addT_ok h hl
  · next a st' =>
    split
    · exact addT_ok (fun x hx => h x (List.mem_cons_of_mem _ hx)) hl
    · exact addT_ok h hl
theorem pushT_len (st : List LT) (t : LT) : (pushT st t).length ≤ st.length + 1 := by
  unfold pushT
  split
  · exact addT_len _ _
  · next a st' =>
    split
    · have := addT_len st' ((lowT t).1, (lowT t).2.1 + a.2.1, (lowT t).2.2 + a.2.2)
      rw [List.length_cons]
      omega
    · exact addT_len _ _
theorem lastT_take (l : List LT) (i : Nat) {t : LT} (h : l[i]? = some t) : lastT (l.take (i + 1)) = pushT (lastT (l.take i)) t := by
  rw [List.take_add_one, h]
  unfold lastT
  rw [List.foldl_append]
  rfl
theorem lastT_ok {l : List LT} (h : LOk l) (i : Nat) : LOk (lastT (l.take i)) ∧ (lastT (l.take i)).length ≤ i := by
  induction i with
  | zero => exact ⟨fun x hx => (nomatch (show x ∈ ([] : List LT) from hx)), Nat.le_refl _⟩
  | succ i ih =>
    cases q : l[i]? with
    | none =>
      have : l.take (i + 1) = l.take i := by rw [List.take_add_one, q, Option.toList_none, List.append_nil]
      rw [this]
      exact ⟨ih.1, by omega⟩
    | some t =>
      rw [lastT_take l i q]
      have := pushT_len (lastT (l.take i)) t
      exact ⟨pushT_ok ih.1 (h t (List.mem_of_getElem? q)), by omega⟩
theorem upR_rev_cons (a : LT) (st : List LT) : tsD (upR (a :: st).reverse) = tsD (upR st.reverse) ++ [tD (up a)] := by
  unfold tsD upR
  rw [List.reverse_cons, List.map_append, List.map_append]
  rfl
theorem atI_last {α : Type} {l : List α} {x : α} : atI (l ++ [x]) (-1) = some x := by
  unfold atI ixN
  rw [if_neg (by omega), if_pos (by rw [List.length_append, List.length_singleton]; omega)]
  show (l ++ [x])[((-1 : Int) + ((l ++ [x]).length : Nat)).toNat]? = some x
  rw [List.length_append, List.length_singleton, show ((-1 : Int) + ((l.length + 1 : Nat) : Int)).toNat = l.length by omega]
  simp
section
variable {P : Program} {w w' : World} {K K' : PySem.W.Frag} {mg : Str → Option Value} {base : Heap} {r : Res} {ds : Sl} {ta : TA}
theorem eqv_nilL (xs : List PyData) : PyData.eqv (.list xs) (.list []) = xs.isEmpty := by cases xs <;> simp [PyData.eqv, PyData.eqvAll]
def sp_law_lasting (K : PySem.W.Frag) : Sp := spP K (fun l : List LT => [.d (.list (tsD (upR l)))]) (fun l => LOk l ∧ l.length ≤ 1000) fun l => .d (.list (tsD (upR (lastT l).reverse)))
-- slots: 0=_law_row 1=_law_runs 2=_law_sign 3=_law_by 4=_law_over 5=_law_small 6=_law_first 7=_law_last 8=_law_ahead
theorem sc_law_lasting : FnScope ["_law_row", "_law_runs", "_law_sign", "_law_by", "_law_over", "_law_small", "_law_first", "_law_last", "_law_ahead"] ["_law_row"] (defScope s_law_lasting) := C8.fnScope_by (by decide +kernel)
theorem c_law_lasting (T : Tx K mg w) : Cal P w K mg base 1 "_law_lasting" ["_law_row"] (sp_law_lasting K) := by
  refine calG T.e_law_lasting T.g_law_lasting sc_law_lasting (fun _ _ _ _ _ _ us hl => match us, hl with | [_], _ => rfl) (fun _ _ => rfl) fun f cdv A outer s H E hr => ?_
  refine ⟨_, (pss_cons (ps_set (i := 1) sc_law_lasting.nd rfl (Or.inl rfl) (pe_lst pa_nil))
    (pss_cons (ps_for PassesOwn.never rfl (pi_list (pv 0)) (pg_tup rfl (pgs_cons (pg_name (i := 2) sc_law_lasting.nd rfl (Or.inl rfl)) (pgs_cons (pg_name (i := 3) sc_law_lasting.nd rfl (Or.inl rfl)) (pgs_cons (pg_name (i := 4) sc_law_lasting.nd rfl (Or.inl rfl)) pgs_nil)))) (pss_cons (ps_set (i := 5) sc_law_lasting.nd rfl (Or.inl rfl) (pe_lower (pv 2)))
    (pss_cons (ps_asg (pe_ifExp (pt_cmpR op_eq (pv 2) (pv 5) (nomark _)) (pe_tup (pa_cons (pv 3) (pa_cons (pv 4) pa_nil))) (pe_tup (pa_cons (pe_un un_neg (pv 3)) (pa_cons (pe_un un_neg (pv 4)) pa_nil)))) (pg_tup rfl (pgs_cons (pg_name (i := 6) sc_law_lasting.nd rfl (Or.inl rfl)) (pgs_cons (pg_name (i := 7) sc_law_lasting.nd rfl (Or.inl rfl)) pgs_nil))))
    (pss_cons (ps_if (PW.pt (pw_and (pt_cmpR (op_neD hr.units) (pv 1) (pe_lst pa_nil) (nomark _)) (pw_and1 (pt_cmpR op_eq (pe_ix ix_tup (pe_ix ix_list (pv 1) (pe_un un_neg pe_int) (fun _ _ => rfl)) pe_int (fun _ _ => rfl)) (pv 5) (nomark _))))) (pss_cons (ps_set (i := 8) sc_law_lasting.nd rfl (Or.inl rfl) (pe_bm0 PySem.F.plainAttrs_list PySem.F.slot_list_pop PySem.F.type_list_pop mt_pop (pv 1)))
    (pss_cons (ps_par (i := 6) (j := 7) rfl sc_law_lasting.nd rfl rfl (by decide) rfl rfl (pa_cons (pe_op op_add (pv 6) (pe_ix ix_tup (pv 8) pe_int (fun _ _ => rfl))) (pa_cons (pe_op op_add (pv 7) (pe_ix ix_tup (pv 8) pe_int (fun _ _ => rfl))) pa_nil)) (by rfl))
    pss_nil)) pss_nil)
    (pss_cons (ps_if (PW.pt (pw_or (pt_cmpR op_ne (pv 6) pe_int (nomark _)) (pw_or1 (pt_cmpR op_ne (pv 7) pe_int (nomark _))))) (pss_cons (ps_expr (pe_bm PySem.F.plainAttrs_list PySem.F.slot_list_append PySem.F.type_list_append mt_append (pv 1) (pa_cons (pe_tup (pa_cons (pv 5) (pa_cons (pv 6) (pa_cons (pv 7) pa_nil)))) pa_nil)))
    pss_nil) pss_nil)
    pss_nil)))))
    (pss_cons (ps_ret (pv 1))
    pss_nil))), ?_⟩
  intro a r F0 H0 D hp R
  dsimp only [nox_K]
  obtain ⟨hok, hlen⟩ := hp
  apply go_new
  intro p
  refine go_for (vs := [2, 3, 4]) (xs := tsD (upR a)) R (fun i o ds => o = some (p, tsD (upR (lastT (a.take i)).reverse)) ∧ ∃ s2 s3 s4 s5 s6 s7 s8 : Option Da, ds = [some (.d (.list (tsD (upR a)))), some (.v (.ref p)), s2, s3, s4, s5, s6, s7, s8]) (ei_list (ev_var rfl)) ⟨rfl, none, none, none, none, none, none, none, rfl⟩ ?_ ?_
  · rintro H1 i d o' ds' hd _ ⟨rfl, s2, s3, s4, s5, s6, s7, s8, rfl⟩
    have hd' : ∃ t, a[i]? = some t ∧ d = tD (up t) := by
      unfold tsD upR at hd
      rw [List.getElem?_map, List.getElem?_map] at hd
      cases q : a[i]? with
      | none =>
        rw [q] at hd
        cases hd
      | some t =>
        rw [q] at hd
        cases hd
        exact ⟨t, rfl, rfl⟩
    obtain ⟨t, ht, rfl⟩ := hd'
    obtain ⟨g1, g2⟩ := lastT_ok hok i
    have hi := (List.getElem?_eq_some_iff.mp ht).1
    have enext := lastT_take a i ht
    generalize lastT (a.take i) = st at g1 g2 enext ⊢
    have htl := hok t (List.mem_of_getElem? ht)
    have lw := lw1 htl
    refine ⟨_, eg_tD (by decide) (by decide) (by decide), fun D' R' nx => ?_⟩
    dsimp only [up]
    apply go_set (w := .d (.str (S [PyProof.Rows.lo1 t.1])))
    · apply ev_is
      · walk_at "ev"
      · rfl
    apply go_unp (P := Is (.d (.tuple [.int (lowT t).2.1, .int (lowT t).2.2]))) (vs := [6, 7])
    · refine evn_if (Pb := IsB ([t.1] == [PyProof.Rows.lo1 t.1])) ?_ (fun e => ?_) fun e => ?_
      · walk_at "et"
      · unfold lowT
        rw [if_pos e.symm]
        exact ev_tup (xs := [.int t.2.1, .int t.2.2]) (ea_cons (ev_var rfl) (ea_one (ev_var rfl))) (by simp)
      · unfold lowT
        rw [if_neg (b_ff e.symm)]
        exact ev_tup (xs := [.int (-t.2.1), .int (-t.2.2)]) (ea_cons (ev_un (ev_var rfl) ru_neg) (ea_one (ev_un (ev_var rfl) ru_neg))) (by simp)
    intro w e
    subst e
    refine ⟨_, eg_tup (xs := [.int (lowT t).2.1, .int (lowT t).2.2]) (egs_cons (eg_name (by decide)) (egs_cons (eg_name (by decide)) egs_nil)) rfl, ?_⟩
    cases st with
    | nil =>
      have en : lastT (a.take (i + 1)) = addT [] ((lowT t).1, (lowT t).2.1, (lowT t).2.2) := enext
      refine go_ifO (i := 1) (b := false) (xs := tsD (upR [].reverse)) rfl (et_andF (et_is (et_test (ev_op (x := .d (.list (tsD (upR [].reverse)))) (y := .d (.list [])) (ev_var rfl) (ev_lst (xs := []) ea_nil (by simp)) (rv_neD rfl rfl rfl))) (by rw [eqv_nilL]; rfl))) (fun z => nomatch z) fun _ => go_skip ?_
      rw [lowT_1] at en
      apply go_if (b := !((lowT t).2.1 == 0) || !((lowT t).2.2 == 0))
      · walk_at "et"
      · intro e
        unfold addT at en
        rw [if_pos e] at en
        refine go_append rfl (by simp [tsD, upR]) (ev_tD (a := [PyProof.Rows.lo1 t.1]) (ea_cons (ev_var rfl) (ea_cons (ev_var rfl) (ea_one (ev_var rfl))))) fun w ew => ⟨_, ew, ?_⟩
        refine go_next (nx _ _ rfl ⟨?_, _, _, _, _, _, _, _, rfl⟩)
        rw [en, upR_rev_cons]
        rfl
      · intro e
        unfold addT at en
        rw [if_neg (b_ff e)] at en
        refine go_skip (go_next (nx _ _ rfl ⟨?_, _, _, _, _, _, _, _, rfl⟩))
        rw [en]
    | cons b st =>
      have hlast : atI (tsD (upR (b :: st).reverse)) (-1) = some (tD (up b)) := by rw [upR_rev_cons]; exact atI_last
      have hsh := shaped_L (LOk.rlw (l := (b :: st).reverse) fun x hx => g1 x (List.mem_reverse.mp hx))
      have en : lastT (a.take (i + 1)) = if ([b.1] == [PyProof.Rows.lo1 t.1]) = true then addT st ((lowT t).1, (lowT t).2.1 + b.2.1, (lowT t).2.2 + b.2.2) else addT (b :: st) ((lowT t).1, (lowT t).2.1, (lowT t).2.2) := enext
      rw [lowT_1] at en
      refine go_ifO (i := 1) (b := [b.1] == [PyProof.Rows.lo1 t.1]) (xs := tsD (upR (b :: st).reverse)) rfl (et_andT (et_is (et_test (ev_op (x := .d (.list (tsD (upR (b :: st).reverse)))) (y := .d (.list [])) (ev_var rfl) (ev_lst (xs := []) ea_nil (by simp)) (rv_neD rfl hsh rfl))) (by rw [eqv_nilL, upR_rev_cons]; simp)) (et_test (ev_op (x := .d (.str (S [b.1]))) (y := .d (.str (S [PyProof.Rows.lo1 t.1]))) (ev_op (x := .d (tD (up b))) (y := .d (.int 0)) (ev_op (x := .d (.list (tsD (upR (b :: st).reverse)))) (y := .d (.int (-1))) (ev_var rfl) (ev_un ev_int ru_neg) (rv_ixL hlast)) ev_int rv_ix0) (ev_var rfl) rv_eqW))) (fun e => ?_) fun e => ?_
      · rw [if_pos e] at en
        rw [upR_rev_cons]
        apply go_assoc
        refine go_pop rfl ?_
        apply go_assoc
        apply go_par (Pa := IsA [.d (.int ((lowT t).2.1 + b.2.1)), .d (.int ((lowT t).2.2 + b.2.2))])
        · refine ea_cons (ev_op (x := .d (.int (lowT t).2.1)) (y := .d (.int b.2.1)) (ev_var rfl) (ev_op (x := .d (tD (up b))) (y := .d (.int 1)) (ev_var rfl) ev_int rv_ix1) rv_int0) (ea_one (ev_op (x := .d (.int (lowT t).2.2)) (y := .d (.int b.2.2)) (ev_var rfl) (ev_op (x := .d (tD (up b))) (y := .d (.int 2)) (ev_var rfl) ev_int rv_ix2) rv_int0))
        intro ws e2
        subst e2
        refine ⟨_, _, rfl, ?_⟩
        apply go_skip
        apply go_if (b := !(((lowT t).2.1 + b.2.1) == 0) || !(((lowT t).2.2 + b.2.2) == 0))
        · walk_at "et"
        · intro e
          unfold addT at en
          rw [if_pos e] at en
          refine go_append rfl (by rw [tsD_len]; unfold upR; rw [List.length_map, List.length_reverse]; rw [List.length_cons] at g2; omega) (ev_tD (a := [PyProof.Rows.lo1 t.1]) (ea_cons (ev_var rfl) (ea_cons (ev_var rfl) (ea_one (ev_var rfl))))) fun w ew => ⟨_, ew, ?_⟩
          refine go_next (nx _ _ rfl ⟨?_, _, _, _, _, _, _, _, rfl⟩)
          rw [en, upR_rev_cons]
          rfl
        · intro e
          unfold addT at en
          rw [if_neg (b_ff e)] at en
          refine go_skip (go_next (nx _ _ rfl ⟨?_, _, _, _, _, _, _, _, rfl⟩))
          rw [en]
      · rw [if_neg (b_ff e)] at en
        apply go_skip
        apply go_if (b := !((lowT t).2.1 == 0) || !((lowT t).2.2 == 0))
        · walk_at "et"
        · intro e
          unfold addT at en
          rw [if_pos e] at en
          refine go_append rfl (by rw [tsD_len]; unfold upR; rw [List.length_map, List.length_reverse]; omega) (ev_tD (a := [PyProof.Rows.lo1 t.1]) (ea_cons (ev_var rfl) (ea_cons (ev_var rfl) (ea_one (ev_var rfl))))) fun w ew => ⟨_, ew, ?_⟩
          refine go_next (nx _ _ rfl ⟨?_, _, _, _, _, _, _, _, rfl⟩)
          rw [en, upR_rev_cons, upR_rev_cons, upR_rev_cons]
          rfl
        · intro e
          unfold addT at en
          rw [if_neg (b_ff e)] at en
          refine go_skip (go_next (nx _ _ rfl ⟨?_, _, _, _, _, _, _, _, rfl⟩))
          rw [en]
  · rintro o' ds' _ ⟨rfl, s2, s3, s4, s5, s6, s7, s8, rfl⟩
    refine go_retO R rfl ?_
    have : a.take (tsD (upR a)).length = a := by
      rw [tsD_len]
      unfold upR
      rw [List.length_map, List.take_length]
    rw [this]
theorem ec_law_lasting {l : List LT} (h : EvA K r ta ds (IsA [.d (.list (tsD (upR l)))])) (h1 : LOk l) (h2 : l.length ≤ 1000) : Ev K r (tCall (sp_law_lasting K) [] E0 ta) ds (Is (.d (.list (tsD (upR (lastT l).reverse))))) := ev_call l h rfl ⟨h1, h2⟩
end
end Kn

set_option Elab.async false
set_option linter.all false
set_option maxRecDepth 100000
set_option maxHeartbeats 4000000
/-! Rows of single letters: the steps that clear them. -/
namespace Kn
open PySem PySem.Spec PyProof.Rows L2
local macro_rules | `(tactic| walk_at "sd") => `(tactic| first | trivial | assumption | walk_at "sz")
local macro_rules | `(tactic| walk_at "sz") => `(tactic| first | assumption | decide | omega | rfl | (simp only [List.length_append, List.length_map, List.length_cons, List.length_nil, List.length_reverse]; omega))
local macro_rules | `(tactic| walk_at "rv") => `(tactic| with_reducible first
  | exact rv_ix0 | exact rv_ix1 | exact rv_ix2 | exact rv_eqI | exact rv_neI | exact rv_eqE | exact rv_neE | exact rv_eqW | exact rv_neW | exact rv_eqS | exact rv_neS
  | exact rv_int0 | exact rv_bl0
  | exact rv_ixT0 | exact rv_ixT1
  | exact rv_ixRT (by assumption) | exact rv_ixRL (by assumption) | (apply rv_ixW; walk_at "sz"; assumption)
  | (refine rv_addW ?_; walk_at "sz")
  | (refine rv_catRT ?_; walk_at "sz") | (refine rv_catRL ?_; walk_at "sz")
  | (refine rv_intC ?_; assumption) | (apply rv_mulW; walk_at "sz"; walk_at "sz"; walk_at "sz")
  | exact rv_inW | exact rv_inSign | exact rv_isN | exact rv_notN | exact rv_notBl
  | exact rv_ixT (by with_unfolding_all rfl) | exact rv_ixL (by with_unfolding_all rfl)
  | exact rv_ixT (by assumption) | exact rv_ixL (by assumption)
  | (refine rv_catA ?_; walk_at "sz") | (refine rv_cat ?_; walk_at "sz"))
local macro_rules | `(tactic| walk_at "rs") => `(tactic| with_reducible first
  | exact rs_rT | exact rs_rL
  | (refine rs_w ?_ ?_; walk_at "sz"; (with_unfolding_all first | exact Nat.zero_le _ | exact HT.sIx_le _ _ (Nat.zero_le _) _ | assumption))
  | exact rs_tup | exact rs_list
  | (refine rs_str ?_; walk_at "sz"))
local macro_rules | `(tactic| walk_at "rc") => `(tactic| with_reducible first
  | exact rc_lenD3 | exact rc_lenRT | exact rc_lenRL | exact rc_lenT | exact rc_lenL | (refine rc_lenW ?_; walk_at "sz") | (refine rc_lenS ?_; walk_at "sz")
  | exact rc_isi (kit_int _) | exact rc_isi (kit_bool _) | exact rc_isi (kit_str _) | exact rc_isi (kit_tup _)
  | exact rc_max | exact rc_min | exact rc_int | exact rc_abs | exact rc_all | exact rc_tupL | exact rc_tupT | exact rc_list | exact rc_listT | (refine rc_listW ?_; walk_at "sz"))
local macro_rules | `(tactic| walk_at "rm") => `(tactic| first | (with_reducible apply rm_lowW; assumption; walk_at "sz") | (with_reducible apply rm_upW; assumption; walk_at "sz"))
local macro_rules | `(tactic| walk_at "ea") => `(tactic| first
  | with_reducible exact ea_nil
  | ((with_reducible apply ea_cons); walk_at "ev"; walk_at "ea"))
local macro_rules | `(tactic| walk_at "eo") => `(tactic| first
  | with_reducible exact eo_none
  | ((with_reducible apply eo_some); walk_at "ev"))
local macro_rules | `(tactic| walk_at "et") => `(tactic| first
  | ((with_reducible apply et_test); walk_at "ev")
  | ((with_reducible apply et_B); walk_at "ev")
  | ((with_reducible apply et_not); walk_at "et")
  | ((with_reducible apply et_and); walk_at "et"; intro _; walk_at "et")
  | ((with_reducible apply et_or); walk_at "et"; intro _; walk_at "et"))
local macro_rules | `(tactic| walk_at "ev") => `(tactic| first
  | with_reducible exact ev_int | with_reducible exact ev_str | with_reducible exact ev_bl | with_reducible exact ev_non | with_reducible exact ev_val
  | ((with_reducible apply ev_var); exact rfl)
  | ((with_reducible apply ev_op); walk_at "ev"; walk_at "ev"; walk_at "rv")
  | ((with_reducible apply ev_un); walk_at "ev"; exact ru_neg)
  | ((with_reducible apply ev_and); walk_at "ev"; intro _; walk_at "ev")
  | ((with_reducible apply ev_or); walk_at "ev"; intro _; walk_at "ev")
  | ((with_reducible apply ev_not); walk_at "ev")
  | ((with_reducible apply ev_sl); walk_at "ev"; walk_at "eo"; walk_at "eo"; walk_at "rs")
  | ((with_reducible apply ev_chain); walk_at "ev"; walk_at "ev"; walk_at "rv"; (intro _; walk_at "ev"); (intro _; walk_at "rv"))
  | walk_at "ec"
  | ((with_reducible apply ev_if); walk_at "et"; (intro _; walk_at "ev"); (intro _; walk_at "ev"))
  | ((with_reducible apply ev_m0); walk_at "ev"; walk_at "rm")
  | ((with_reducible apply ev_cb); walk_at "ea"; walk_at "rc")
  | ((with_reducible apply ev_tD); walk_at "ea")
  | with_reducible exact ev_rT0 | with_reducible exact ev_rL0
  | ((with_reducible apply ev_rT1); walk_at "ea") | ((with_reducible apply ev_rT2); walk_at "ea") | ((with_reducible apply ev_rT3); walk_at "ea")
  | ((with_reducible apply ev_rL1); walk_at "ea") | ((with_reducible apply ev_rL2); walk_at "ea") | ((with_reducible apply ev_rL3); walk_at "ea") | ((with_reducible apply ev_rL4); walk_at "ea")
  | ((with_reducible apply ev_revW); walk_at "ev"; walk_at "sz")
  | ((with_reducible apply ev_revL); walk_at "ev")
  | ((with_reducible apply ev_revT); walk_at "ev"))
local macro_rules | `(tactic| walk_at "ret") => `(tactic| (apply go_retE; assumption; exact rfl; walk_at "ev"))
local macro_rules | `(tactic| walk_at "if") => `(tactic| (apply go_if; walk_at "et"))
local macro_rules | `(tactic| walk_at "set") => `(tactic| (apply go_set; walk_at "ev"))
local macro_rules | `(tactic| walk_at "eg") => `(tactic| first | exact eg_name (by decide) | exact eg_tD (by decide) (by decide) (by decide))
local macro_rules | `(tactic| walk_at "ec") => `(tactic| first | ((with_reducible apply ec_law_stepped); walk_at "ea"; walk_at "sd"; walk_at "sd"; walk_at "sd"))
section
variable {B : Bs} {o : Ow} {ds : Sl} {P : Da → Prop} {te : TE} {tt : TT} {t u : TS} {D : Ends}
theorem Holds.new {σ : L2.St} {H : Hp} {p : Addr} (x : Holds B none ds σ H) (np : H p = none) : Holds B (some (p, [])) ds σ (upd H p (.lst [])) := by
  have s := Stp.new (o := .lst []) x.stp.on np
  have x2 := x.step s
  have out := new_out (F := B.F) x.stp.on (fun a ha => x.fok a (List.mem_append_right _ ha)) np
  refine ⟨x2.stp, x2.f0, fun a ha => ?_, fun q e => ?_, ?_⟩
  · rcases List.mem_append.mp ha with z | z
    · rw [List.mem_singleton.mp z]
      refine ⟨by rw [upd_same]; exact (fun z => nomatch z), fun z => out (List.mem_append_left _ z)⟩
    · exact x2.fok a z
  · cases e
    exact ⟨x.stp.dom p np, [], upd_same, .nil⟩
  · exact x.env.same fun a v h => by
      obtain ⟨n, h1⟩ := hide_of h
      have np' : a ≠ p := ne_of_none h1 np
      refine hide_at (fun z => ?_) (by rw [upd_ne np']; exact h1)
      rcases List.mem_append.mp z with z | z
      · exact n (List.mem_append_left _ z)
      · rcases List.mem_append.mp z with z | z
        · exact np' (List.mem_singleton.mp z)
        · exact n (List.mem_append_right _ z)
theorem go_par3O {i j l : Nat} {tb tc : TE} {w2 w3 : Da} (hb : Ev B.K B.r tb ds (Is w2)) (hc : Ev B.K B.r tc ds (Is w3)) (k : ∀ p, Go B (some (p, [])) (((ds.set i (some (.v (.ref p)))).set j (some w2)).set l (some w3)) u D) :
    Go B none ds (tSeq (tPar3 i j l (tCons (tLst tNil) (tCons tb (tCons tc tNil)))) u) D := fun σ H x => by
  refine ⟨Nat.zero_le _, fun p np => ?_⟩
  have x2 := x.new np
  refine run_ev hb x2 fun v2 H2 _ e2 s2 x3 r2 => ?_
  subst e2
  refine run_ev hc x3 fun v3 H3 _ e3 s3 x4 r3 => ?_
  subst e3
  exact ⟨_, _, _, rfl, k p _ _ (((x4.set i (v := .ref p) (w := .v (.ref p)) rfl).set j (r2.same s3.same)).set l r3)⟩
theorem go_retV (R : Rt B D) {i : Nat} {p : Addr} {xs : List PyData} (e : ds[i]? = some (some (.v (.ref p)))) (h : Ev B.K B.r te (ds.set i (some (.d (.list xs)))) P) (k : ∀ w, P w → B.post w) : Go B (some (p, xs)) ds (tSeq (tRet te) u) D := fun σ H x => by
  obtain ⟨v, e1, e2⟩ := x.env.at_ i _ e
  obtain rfl : v = V.ref p := e2
  obtain ⟨h0, vs, h1, h2⟩ := x.own _ rfl
  have out : p ∉ hid B.F B.r := fun z => by
    rcases List.mem_append.mp z with z | z
    · exact (x.fok p (List.mem_append_left _ (List.mem_singleton.mpr rfl))).2 z
    · exact (x.f0 p z).1 h0
  have env : SEnv B.K (hide (hid B.F B.r) H) σ (ds.set i (some (.d (.list xs)))) := by
    have q := (x.env.same (hid_sub (G := [p]))).set i (v := .ref p) (w := .d (.list xs)) (Rp.lst (hide_at out h1) (h2.same hid_sub))
    have es : σ.set i (some (.ref p)) = σ := by
      apply List.ext_getElem?
      intro j
      by_cases ej : i = j
      · subst ej
        rw [List.getElem?_set_self (List.getElem?_eq_some_iff.mp e1).1, e1]
      · rw [List.getElem?_set_ne ej]
    rw [es] at q
    exact q
  have fB : FOk B.F B.r H := fun a ha => x.fok a (List.mem_append_right _ ha)
  exact h B.F σ H x.stp.on fB env _ fun v H2 w pw s rx => R.rt v H2 w (k w pw) (x.stp.trans s) rx
end
/-! ### steps at a place -/
theorem stp_at1 {a b : Row} {x : Tr} {d : PyData} {s : PSt} (hp : parse d = some s) (hi : s.i = (a.length : Nat)) (hk : s.k.pair = false) : stp (a ++ x :: b) d = (act s x x).map fun f => a ++ f ++ b := by
  have hw : s.k.wide = 1 := by unfold Kd.wide; rw [hk]; rfl
  unfold stp
  rw [hp]
  have hl : (a ++ x :: b).length = a.length + (b.length + 1) := by rw [List.length_append, List.length_cons]
  have hf : s.fits (a ++ x :: b).length = true := by
    unfold PSt.fits
    rw [hi, hw, hl, decide_eq_true (by omega), decide_eq_true (by omega)]
    rfl
  dsimp only
  rw [if_pos hf]
  unfold stpS
  have h1 : atI (a ++ x :: b) (a.length : Nat) = some x := by
    rw [atI_nat (by rw [hl]; omega)]
    simp
  rw [hi, hw, show ((a.length : Nat) : Int) + ((1 : Nat) : Int) - 1 = ((a.length : Nat) : Int) by omega, h1]
  dsimp only
  rw [cutG_take, show ((a.length : Nat) : Int) + ((1 : Nat) : Int) = ((a.length + 1 : Nat) : Int) by omega, cutG_drop]
  have t1 : (a ++ x :: b).take a.length = a := by simp
  have t2 : (a ++ x :: b).drop (a.length + 1) = b := by simp
  rw [t1, t2]
theorem stp_at2 {a b : Row} {x y : Tr} {d : PyData} {s : PSt} (hp : parse d = some s) (hi : s.i = (a.length : Nat)) (hk : s.k.pair = true) : stp (a ++ x :: y :: b) d = (act s x y).map fun f => a ++ f ++ b := by
  have hw : s.k.wide = 2 := by unfold Kd.wide; rw [hk]; rfl
  unfold stp
  rw [hp]
  have hl : (a ++ x :: y :: b).length = a.length + (b.length + 2) := by rw [List.length_append, List.length_cons, List.length_cons]
  have hf : s.fits (a ++ x :: y :: b).length = true := by
    unfold PSt.fits
    rw [hi, hw, hl, decide_eq_true (by omega), decide_eq_true (by omega)]
    rfl
  dsimp only
  rw [if_pos hf]
  unfold stpS
  have h1 : atI (a ++ x :: y :: b) (a.length : Nat) = some x := by
    rw [atI_nat (by rw [hl]; omega)]
    simp
  have h2 : atI (a ++ x :: y :: b) ((a.length + 1 : Nat) : Int) = some y := by
    rw [atI_nat (by rw [hl]; omega)]
    simp
  rw [hi, hw, show ((a.length : Nat) : Int) + ((2 : Nat) : Int) - 1 = ((a.length + 1 : Nat) : Int) by omega, h1, h2]
  dsimp only
  rw [cutG_take, show ((a.length : Nat) : Int) + ((2 : Nat) : Int) = ((a.length + 2 : Nat) : Int) by omega, cutG_drop]
  have t1 : (a ++ x :: y :: b).take a.length = a := by simp
  have t2 : (a ++ x :: y :: b).drop (a.length + 2) = b := by
    rw [List.drop_append]
    simp
  rw [t1, t2]
/-! ### the clearing, with its place -/
structure Zp where
  pre : List LT
  post : List LT
  ex : Nat
def Zp.row (z : Zp) : List LT := z.pre.reverse ++ z.post
def Zp.at_ (z : Zp) : Nat := z.pre.length + z.ex
def Zp.ok (z : Zp) : Prop := z.post = [] ∨ z.ex = 0
def zst (z : Zp) : Option HS × Zp := match z.post with
  | [] => (none, ⟨z.pre, [], z.ex + 1⟩)
  | t :: ts => if t.1 ∈ [65, 66, 67, 68, 69, 70] then (some (.turn, [(z.at_ : Nat)]), ⟨z.pre, (flp t.1, -t.2.1, -t.2.2) :: ts, 0⟩)
    else if (t.2.1 == 0 && t.2.2 == 0) = true then (some (.out, [(z.at_ : Nat)]), match z.pre with
      | [] => ⟨[], ts, 0⟩
      | a :: pre => ⟨pre, a :: ts, 0⟩)
    else match z.pre with
      | [] => (none, ⟨[t], ts, 0⟩)
      | a :: pre => if ([a.1] == [t.1]) = true then (some (.join, [((z.at_ : Nat) : Int) - 1]), ⟨pre, (a.1, a.2.1 + t.2.1, a.2.2 + t.2.2) :: ts, 0⟩) else (none, ⟨t :: a :: pre, ts, 0⟩)
def zrun (l : List LT) : Nat → List HS × Zp
  | 0 => ([], ⟨[], l, 0⟩)
  | n + 1 => ((zrun l n).1 ++ (zst (zrun l n).2).1.toList, (zst (zrun l n).2).2)
theorem zst_ok (z : Zp) (h : z.ok) : (zst z).2.ok := by
  unfold zst
  split
  · exact .inl rfl
  · split
    · exact .inr rfl
    · split
      · dsimp only
        split <;> exact .inr rfl
      · split
        · exact .inr rfl
        · split <;> exact .inr rfl
theorem flp_ok : ∀ c ∈ Lt, flp c ∈ Lt := flp_lt
theorem Zp.mem {z : Zp} (h : LOk z.row) : LOk z.pre ∧ LOk z.post := ⟨fun t ht => h t (List.mem_append_left _ (List.mem_reverse.mpr ht)), fun t ht => h t (List.mem_append_right _ ht)⟩
theorem LOk.zp {pre post : List LT} {n : Nat} (h1 : LOk pre) (h2 : LOk post) : LOk (Zp.row ⟨pre, post, n⟩) := fun t ht => (List.mem_append.mp ht).elim (fun q => h1 t (List.mem_reverse.mp q)) (h2 t)
theorem LOk.cons' {t : LT} {l : List LT} (h1 : t.1 ∈ Lt) (h2 : LOk l) : LOk (t :: l) := fun x hx => by
  rcases List.mem_cons.mp hx with e | e
  · rw [e]; exact h1
  · exact h2 x e
theorem zst_lok (z : Zp) (h : LOk z.row) : LOk (zst z).2.row := by
  obtain ⟨h1, h2⟩ := Zp.mem h
  obtain ⟨pre, post, ex⟩ := z
  dsimp only at h1 h2
  unfold zst
  cases post with
  | nil => exact LOk.zp h1 h2
  | cons t ts =>
    have ht := h2 t List.mem_cons_self
    have hts : LOk ts := fun x hx => h2 x (List.mem_cons_of_mem _ hx)
    dsimp only
    split
    · exact LOk.zp h1 (LOk.cons' (flp_ok _ ht) hts)
    · split
      · cases pre with
        | nil => exact LOk.zp h1 hts
        | cons a pre => exact LOk.zp (fun x hx => h1 x (List.mem_cons_of_mem _ hx)) (LOk.cons' (h1 a List.mem_cons_self) hts)
      · cases pre with
        | nil => exact LOk.zp (LOk.cons' ht h1) hts
        | cons a pre =>
          dsimp only
          split
          · exact LOk.zp (fun x hx => h1 x (List.mem_cons_of_mem _ hx)) (LOk.cons' (h1 a List.mem_cons_self) hts)
          · exact LOk.zp (LOk.cons' ht h1) hts
theorem zst_len (z : Zp) : (zst z).2.row.length ≤ z.row.length := by
  obtain ⟨pre, post, ex⟩ := z
  unfold zst Zp.row
  cases post with
  | nil => exact Nat.le_refl _
  | cons t ts =>
    dsimp only
    split
    · simp
    · split
      · cases pre <;> simp
      · cases pre with
        | nil => simp
        | cons a pre =>
          dsimp only
          split <;> simp
theorem zrun_ok {l : List LT} (h : LOk l) (n : Nat) : (zrun l n).2.ok ∧ LOk (zrun l n).2.row ∧ (zrun l n).2.row.length ≤ l.length := by
  induction n with
  | zero => exact ⟨.inr rfl, h, Nat.le_refl _⟩
  | succ n ih => exact ⟨zst_ok _ ih.1, zst_lok _ ih.2.1, Nat.le_trans (zst_len _) ih.2.2⟩
theorem upR_app (a b : List LT) : upR (a ++ b) = upR a ++ upR b := List.map_append
theorem upR_cons (a : LT) (b : List LT) : upR (a :: b) = up a :: upR b := rfl
theorem upR_len (a : List LT) : (upR a).length = a.length := List.length_map _
theorem und_one (c : Nat) : und [c] = [flp c] := rfl
theorem zst_stp {z : Zp} {s : HS} {z' : Zp} (hz : z.ok) (h : zst z = (some s, z')) : stp (upR z.row) (hD s) = some (upR z'.row) := by
  obtain ⟨pre, post, ex⟩ := z
  unfold zst at h
  cases post with
  | nil => cases h
  | cons t ts =>
    have he : ex = 0 := by
      rcases hz with q | q
      · cases q
      · exact q
    subst he
    dsimp only at h
    split at h
    · cases h
      unfold Zp.row Zp.at_
      dsimp only
      rw [upR_app, upR_app, upR_cons, upR_cons]
      rw [stp_at1 (s := ⟨.turn, (pre.length : Nat), 0, 0⟩) (by rfl) (by rw [upR_len, List.length_reverse]) rfl]
      rw [List.append_cons]
      rfl
    · split at h
      · next hq =>
        have hq' : t.2.1 = 0 ∧ t.2.2 = 0 := by
          rw [Bool.and_eq_true] at hq
          exact ⟨eq_of_beq hq.1, eq_of_beq hq.2⟩
        have e1 : stp (upR (Zp.row ⟨pre, t :: ts, 0⟩)) (hD (.out, [((Zp.at_ ⟨pre, t :: ts, 0⟩ : Nat) : Int)])) = some (upR pre.reverse ++ upR ts) := by
          unfold Zp.row Zp.at_
          dsimp only
          rw [upR_app, upR_cons]
          rw [stp_at1 (s := ⟨.out, (pre.length : Nat), 0, 0⟩) (by rfl) (by rw [upR_len, List.length_reverse]) rfl]
          have : act ⟨.out, (pre.length : Nat), 0, 0⟩ (up t) (up t) = some [] := by
            unfold act aOut up
            dsimp only
            rw [hq'.1, hq'.2]
            rfl
          rw [this]
          show some (upR pre.reverse ++ [] ++ upR ts) = _
          rw [List.append_nil]
        cases pre with
        | nil =>
          cases h
          exact e1
        | cons a pre =>
          cases h
          rw [e1]
          unfold Zp.row
          rw [List.reverse_cons, upR_app, upR_app, List.append_assoc]
          rfl
      · cases pre with
        | nil => cases h
        | cons a pre =>
          dsimp only at h
          split at h
          · next hq =>
            cases h
            have hq' : a.1 = t.1 := by
              have := eq_of_beq hq
              exact (List.cons.inj this).1
            unfold Zp.row Zp.at_
            dsimp only
            rw [List.reverse_cons, List.append_assoc, upR_app, upR_app]
            show stp (upR pre.reverse ++ up a :: up t :: upR ts) _ = _
            rw [stp_at2 (s := ⟨.join, (((a :: pre).length + 0 : Nat) : Int) - 1, 0, 0⟩) (by rfl) (by rw [upR_len, List.length_reverse, List.length_cons]; show _ - _ = _; omega) rfl]
            have : act ⟨.join, (((a :: pre).length + 0 : Nat) : Int) - 1, 0, 0⟩ (up a) (up t) = some [up (a.1, a.2.1 + t.2.1, a.2.2 + t.2.2)] := by
              unfold act aJoin up
              dsimp only
              rw [if_pos (by rw [hq']; exact beq_self_eq_true _)]
            rw [this]
            rw [upR_app, upR_cons]
            show some (upR pre.reverse ++ [_] ++ upR ts) = _
            rw [List.append_assoc]
            rfl
          · cases h
end Kn

set_option Elab.async false
set_option linter.all false
set_option maxRecDepth 100000
set_option maxHeartbeats 4000000
/-! Rows of single letters: the defs that clear them. -/
namespace Kn
open PySem PySem.Spec PyProof.Rows L2
local macro_rules | `(tactic| walk_at "sd") => `(tactic| first | trivial | assumption | walk_at "sz")
local macro_rules | `(tactic| walk_at "sz") => `(tactic| first | assumption | decide | omega | rfl | (simp only [List.length_append, List.length_map, List.length_cons, List.length_nil, List.length_reverse]; omega))
local macro_rules | `(tactic| walk_at "rv") => `(tactic| with_reducible first
  | exact rv_ix0 | exact rv_ix1 | exact rv_ix2 | exact rv_eqI | exact rv_neI | exact rv_eqE | exact rv_neE | exact rv_eqW | exact rv_neW | exact rv_eqS | exact rv_neS
  | exact rv_int0 | exact rv_bl0
  | exact rv_ixT0 | exact rv_ixT1
  | exact rv_ixRT (by assumption) | exact rv_ixRL (by assumption) | (apply rv_ixW; walk_at "sz"; assumption)
  | (refine rv_addW ?_; walk_at "sz")
  | (refine rv_catRT ?_; walk_at "sz") | (refine rv_catRL ?_; walk_at "sz")
  | (refine rv_intC ?_; assumption) | (apply rv_mulW; walk_at "sz"; walk_at "sz"; walk_at "sz")
  | exact rv_inW | exact rv_inSign | exact rv_isN | exact rv_notN | exact rv_notBl
  | exact rv_ixT (by with_unfolding_all rfl) | exact rv_ixL (by with_unfolding_all rfl)
  | exact rv_ixT (by assumption) | exact rv_ixL (by assumption)
  | (refine rv_catA ?_; walk_at "sz") | (refine rv_cat ?_; walk_at "sz"))
local macro_rules | `(tactic| walk_at "rs") => `(tactic| with_reducible first
  | exact rs_rT | exact rs_rL
  | (refine rs_w ?_ ?_; walk_at "sz"; (with_unfolding_all first | exact Nat.zero_le _ | exact HT.sIx_le _ _ (Nat.zero_le _) _ | assumption))
  | exact rs_tup | exact rs_list
  | (refine rs_str ?_; walk_at "sz"))
local macro_rules | `(tactic| walk_at "rc") => `(tactic| with_reducible first
  | exact rc_lenD3 | exact rc_lenRT | exact rc_lenRL | exact rc_lenT | exact rc_lenL | (refine rc_lenW ?_; walk_at "sz") | (refine rc_lenS ?_; walk_at "sz")
  | exact rc_isi (kit_int _) | exact rc_isi (kit_bool _) | exact rc_isi (kit_str _) | exact rc_isi (kit_tup _)
  | exact rc_max | exact rc_min | exact rc_int | exact rc_abs | exact rc_all | exact rc_tupL | exact rc_tupT | exact rc_list | exact rc_listT | (refine rc_listW ?_; walk_at "sz"))
local macro_rules | `(tactic| walk_at "rm") => `(tactic| first | (with_reducible apply rm_lowW; assumption; walk_at "sz") | (with_reducible apply rm_upW; assumption; walk_at "sz"))
local macro_rules | `(tactic| walk_at "ea") => `(tactic| first
  | with_reducible exact ea_nil
  | ((with_reducible apply ea_cons); walk_at "ev"; walk_at "ea"))
local macro_rules | `(tactic| walk_at "eo") => `(tactic| first
  | with_reducible exact eo_none
  | ((with_reducible apply eo_some); walk_at "ev"))
local macro_rules | `(tactic| walk_at "et") => `(tactic| first
  | ((with_reducible apply et_test); walk_at "ev")
  | ((with_reducible apply et_B); walk_at "ev")
  | ((with_reducible apply et_not); walk_at "et")
  | ((with_reducible apply et_and); walk_at "et"; intro _; walk_at "et")
  | ((with_reducible apply et_or); walk_at "et"; intro _; walk_at "et"))
local macro_rules | `(tactic| walk_at "ev") => `(tactic| first
  | with_reducible exact ev_int | with_reducible exact ev_str | with_reducible exact ev_bl | with_reducible exact ev_non | with_reducible exact ev_val
  | ((with_reducible apply ev_var); exact rfl)
  | ((with_reducible apply ev_op); walk_at "ev"; walk_at "ev"; walk_at "rv")
  | ((with_reducible apply ev_un); walk_at "ev"; exact ru_neg)
  | ((with_reducible apply ev_and); walk_at "ev"; intro _; walk_at "ev")
  | ((with_reducible apply ev_or); walk_at "ev"; intro _; walk_at "ev")
  | ((with_reducible apply ev_not); walk_at "ev")
  | ((with_reducible apply ev_sl); walk_at "ev"; walk_at "eo"; walk_at "eo"; walk_at "rs")
  | ((with_reducible apply ev_chain); walk_at "ev"; walk_at "ev"; walk_at "rv"; (intro _; walk_at "ev"); (intro _; walk_at "rv"))
  | walk_at "ec"
  | ((with_reducible apply ev_if); walk_at "et"; (intro _; walk_at "ev"); (intro _; walk_at "ev"))
  | ((with_reducible apply ev_m0); walk_at "ev"; walk_at "rm")
  | ((with_reducible apply ev_cb); walk_at "ea"; walk_at "rc")
  | ((with_reducible apply ev_tD); walk_at "ea")
  | with_reducible exact ev_rT0 | with_reducible exact ev_rL0
  | ((with_reducible apply ev_rT1); walk_at "ea") | ((with_reducible apply ev_rT2); walk_at "ea") | ((with_reducible apply ev_rT3); walk_at "ea")
  | ((with_reducible apply ev_rL1); walk_at "ea") | ((with_reducible apply ev_rL2); walk_at "ea") | ((with_reducible apply ev_rL3); walk_at "ea") | ((with_reducible apply ev_rL4); walk_at "ea")
  | ((with_reducible apply ev_revW); walk_at "ev"; walk_at "sz")
  | ((with_reducible apply ev_revL); walk_at "ev")
  | ((with_reducible apply ev_revT); walk_at "ev"))
local macro_rules | `(tactic| walk_at "ret") => `(tactic| (apply go_retE; assumption; exact rfl; walk_at "ev"))
local macro_rules | `(tactic| walk_at "if") => `(tactic| (apply go_if; walk_at "et"))
local macro_rules | `(tactic| walk_at "set") => `(tactic| (apply go_set; walk_at "ev"))
local macro_rules | `(tactic| walk_at "eg") => `(tactic| first | exact eg_name (by decide) | exact eg_tD (by decide) (by decide) (by decide))
local macro_rules | `(tactic| walk_at "ec") => `(tactic| first | ((with_reducible apply ec_law_stepped); walk_at "ea"; walk_at "sd"; walk_at "sd"; walk_at "sd") | ((with_reducible apply ec_law_faced); walk_at "ea"; walk_at "sd"))
section
variable {P : Program} {w w' : World} {K K' : PySem.W.Frag} {mg : Str → Option Value} {base : Heap} {r : Res} {ds : Sl} {ta : TA}
theorem upp_eq : (Str.ofString "ABCDEF").cps.toList = [65, 66, 67, 68, 69, 70] := by decide +kernel
theorem names_kd : ∀ k : Kd, k.name ∈ names12 := fun k => by cases k <;> decide +kernel
theorem stok_h2 {k : Kd} {i : Int} (h : i.natAbs < 2 ^ 200) : StOk (hD (k, [i])) := by
  refine ⟨by simp, ?_⟩
  rw [List.all_cons, Bool.and_eq_true]
  refine ⟨decide_eq_true (names_kd k), ?_⟩
  show (flatI (.int i) && true) = true
  rw [Bool.and_true]
  exact decide_eq_true h
theorem tot_up (l : List LT) : tot (upR l) = 2 * l.length := by
  induction l with
  | nil => rfl
  | cons a l ih =>
    rw [upR_cons, tot_cons, ih, List.length_cons]
    show 1 + 1 + _ = _
    omega
theorem shaped_ii {i j : Int} : SeqAt.shaped (.tuple [.int i, .int j]) = true := rfl
theorem zrun_len (l : List LT) (n : Nat) : (zrun l n).1.length ≤ n := by
  induction n with
  | zero => exact Nat.le_refl _
  | succ n ih =>
    show ((zrun l n).1 ++ (zst (zrun l n).2).1.toList).length ≤ n + 1
    rw [List.length_append]
    have : (zst (zrun l n).2).1.toList.length ≤ 1 := by cases (zst (zrun l n).2).1 <;> simp
    omega
theorem list6 {a b : Da} {d0 : Option Da} {a' b' : Option Da} {d4 d5 : Option Da} {d1 : Option Da} (h1 : some a = a') (h2 : some b = b') : [d0, d1, some a, some b, d4, d5] = [d0, d1, a', b', d4, d5] := by subst h1 h2; rfl
def cleared (l : List LT) : PyData := .tuple [.list (tsD (upR (zrun l (4 * l.length + 4)).2.row)), .list (hsD (zrun l (4 * l.length + 4)).1)]
theorem hsD_app (a b : List HS) : hsD (a ++ b) = hsD a ++ hsD b := List.map_append
theorem et_k0 {k : Kd} {z : Int} (h : ds[5]? = some (some (.d (hD (k, [z]))))) : EvT K r (tTest (tOp rNe (tOp (rIxT K) (tVar 5) (tC (.int 0))) (tC (.str (Str.ofString "turn"))))) ds (IsB (!(k.name == Str.ofString "turn"))) :=
  et_test (ev_op (x := .d (.str k.name)) (y := .d (.str (Str.ofString "turn"))) (ev_op (x := .d (hD (k, [z]))) (y := .d (.int 0)) (ev_var h) ev_int (rv_ixT0 (xs := [.int z]))) ev_str rv_neS)
def sp_law_cleared (K : PySem.W.Frag) : Sp := spP K (fun l : List LT => [.d (.list (tsD (upR l)))]) (fun l => LOk l ∧ l.length ≤ 100) fun l => .d (cleared l)
-- slots: 0=_law_row 1=_law_steps 2=_law_now 3=_law_at 4=_law_turn 5=_law_step
theorem sc_law_cleared : FnScope ["_law_row", "_law_steps", "_law_now", "_law_at", "_law_turn", "_law_step"] ["_law_row"] (defScope s_law_cleared) := C8.fnScope_by (by decide +kernel)
theorem c_law_cleared (T : Tx K mg w) : Cal P w K mg base 5 "_law_cleared" ["_law_row"] (sp_law_cleared K) := by
  refine calG T.e_law_cleared T.g_law_cleared sc_law_cleared (fun _ _ _ _ _ _ us hl => match us, hl with | [_], _ => rfl) (fun _ _ => rfl) fun f cdv A outer s H E hr => ?_
  refine ⟨_, (pss_cons (ps_par3 (i := 1) (j := 2) (l := 3) rfl sc_law_cleared.nd rfl rfl rfl (by decide) (by decide) (by decide) rfl rfl rfl (pa_cons (pe_lst pa_nil) (pa_cons (pe_callTy call_list_of (by rfl) T.f_list (by decide +kernel) (pa_cons (pv 0) pa_nil)) (pa_cons pe_int pa_nil))) (by rfl))
    (pss_cons (ps_for PassesOwn.never rfl (pi_range1 (by rfl) T.f_range (pa_cons (pe_op op_add (pe_op op_mul pe_int (pe_callB call_len_seq (by rfl) T.f_len PySem.boot_len (pa_cons (pv 0) pa_nil))) pe_int) pa_nil)) (pg_name (i := 4) sc_law_cleared.nd rfl (Or.inl rfl)) (pss_cons (ps_set (i := 5) sc_law_cleared.nd rfl (Or.inl rfl) pe_non)
    (pss_cons (ps_if (PW.pt (pw_and (pt_cmpR op_lt (pv 3) (pe_callB call_len_seq (by rfl) T.f_len PySem.boot_len (pa_cons (pv 2) pa_nil)) (nomark _)) (pw_and1 (pt_cmpR op_in_sign (pe_ix ix_tup (pe_ix ix_list (pv 2) (pv 3) (fun _ _ => rfl)) pe_int (fun _ _ => rfl)) pe_str (by rfl))))) (pss_cons (ps_set (i := 5) sc_law_cleared.nd rfl (Or.inl rfl) (pe_tup (pa_cons pe_str (pa_cons (pv 3) pa_nil))))
    pss_nil) (pss_cons (ps_if (PW.pt (pw_and (pt_cmpR op_lt (pv 3) (pe_callB call_len_seq (by rfl) T.f_len PySem.boot_len (pa_cons (pv 2) pa_nil)) (nomark _)) (pw_and1 (pt_cmpR (op_eqD hr.units) (pe_slice sl_tupA (pe_ix ix_list (pv 2) (pv 3) (fun _ _ => rfl)) (po_some pe_int) po_none) (pe_tup (pa_cons pe_int (pa_cons pe_int pa_nil))) (nomark _))))) (pss_cons (ps_set (i := 5) sc_law_cleared.nd rfl (Or.inl rfl) (pe_tup (pa_cons pe_str (pa_cons (pv 3) pa_nil))))
    pss_nil) (pss_cons (ps_if (PW.pt (pw_and (pt_chain op_lt op_lt pe_int (pv 3) (pe_callB call_len_seq (by rfl) T.f_len PySem.boot_len (pa_cons (pv 2) pa_nil))) (pw_and1 (pt_cmpR op_eq (pe_ix ix_tup (pe_ix ix_list (pv 2) (pe_op op_sub (pv 3) pe_int) (fun _ _ => rfl)) pe_int (fun _ _ => rfl)) (pe_ix ix_tup (pe_ix ix_list (pv 2) (pv 3) (fun _ _ => rfl)) pe_int (fun _ _ => rfl)) (nomark _))))) (pss_cons (ps_set (i := 5) sc_law_cleared.nd rfl (Or.inl rfl) (pe_tup (pa_cons pe_str (pa_cons (pe_op op_sub (pv 3) pe_int) pa_nil))))
    pss_nil) pss_nil)
    pss_nil))
    pss_nil))
    (pss_cons (ps_if (pt_cmpR op_isN (pv 5) pe_non (nomark _)) (pss_cons (ps_set (i := 3) sc_law_cleared.nd rfl (Or.inl rfl) (pe_op op_add (pv 3) pe_int))
    pss_nil) (pss_cons (ps_set (i := 2) sc_law_cleared.nd rfl (Or.inl rfl) (pe_c (c_law_stepped T) hr (by decide) (by rfl) (pa_cons (pv 2) (pa_cons (pv 5) pa_nil))))
    (pss_cons (ps_expr (pe_bm PySem.F.plainAttrs_list PySem.F.slot_list_append PySem.F.type_list_append mt_append (pv 1) (pa_cons (pv 5) pa_nil)))
    (pss_cons (ps_set (i := 3) sc_law_cleared.nd rfl (Or.inl rfl) (pe_ifExp (pt_cmpR op_ne (pe_ix ix_tup (pv 5) pe_int (fun _ _ => rfl)) pe_str (nomark _)) (pe_callB (call_max2 rfl) (by rfl) T.f_max (by decide +kernel) (pa_cons pe_int (pa_cons (pe_op op_sub (pv 3) pe_int) pa_nil))) (pv 3)))
    pss_nil))))
    pss_nil))))
    (pss_cons (ps_ret (pe_tup (pa_cons (pv 2) (pa_cons (pv 1) pa_nil))))
    pss_nil))), ?_⟩
  intro a r F0 H0 D hp R
  dsimp only [nox_K]
  obtain ⟨hok, hlen⟩ := hp
  refine go_par3O (w2 := .d (.list (tsD (upR a)))) (w3 := .d (.int 0)) ?_ ev_int fun p => ?_
  · walk_at "ev"
  have hn := upR_len a
  have c4 : CMul 4 ((upR a).length : Nat) := .inl ⟨by decide, by decide⟩
  refine go_for (vs := [4]) (xs := rangeP (4 * ((upR a).length : Nat) + 4 : Int)) R (fun i o ds => o = some (p, hsD (zrun a i).1) ∧ ∃ s4 s5 : Option Da, ds = [some (.d (.list (tsD (upR a)))), some (.v (.ref p)), some (.d (.list (tsD (upR (zrun a i).2.row)))), some (.d (.int ((zrun a i).2.at_ : Nat))), s4, s5]) (ei_range (ea_one ?_) (by omega) (by omega)) ⟨rfl, none, none, rfl⟩ ?_ ?_
  · walk_at "ev"
  · rintro H1 i d o' ds' hd _ ⟨rfl, s4, s5, rfl⟩
    obtain ⟨g1, g2, g3⟩ := zrun_ok hok i
    have hil : i < 4 * a.length + 4 := by
      have h := (List.getElem?_eq_some_iff.mp hd).1
      unfold rangeP at h
      rw [List.length_map, List.length_range] at h
      omega
    have ghs := zrun_len a i
    have en1 : (zrun a (i + 1)).1 = (zrun a i).1 ++ (zst (zrun a i).2).1.toList := rfl
    have en2 : (zrun a (i + 1)).2 = (zst (zrun a i).2).2 := rfl
    refine ⟨_, eg_name (by decide), fun D' R' nx => ?_⟩
    generalize (zrun a i).1 = hs at en1 ghs ⊢
    generalize (zrun a i).2 = z at en1 en2 g1 g2 g3 ⊢
    have hst := @zst_stp z
    have hlen2 : (upR z.row).length = z.row.length := upR_len _
    have htot := tot_up z.row
    have hrl := LOk.rlw g2
    have hhs : (hsD hs).length < 100000 := by unfold hsD; rw [List.length_map]; omega
    apply go_set ev_non
    obtain ⟨pre, post, ex⟩ := z
    cases post with
    | nil =>
      have hge : ¬ (((Zp.at_ ⟨pre, [], ex⟩ : Nat) : Int) < ((upR (Zp.row ⟨pre, [], ex⟩)).length : Nat)) := by
        rw [hlen2]
        unfold Zp.at_ Zp.row
        dsimp only
        rw [List.length_append, List.length_reverse]
        simp only [List.length_nil]
        omega
      refine go_ifF (et_andF ?_) (go_assoc (go_ifF (et_andF ?_) (go_assoc (go_ifF (et_andF ?_) (go_skip ?_)))))
      · apply et_is; walk_at "et"; exact decide_eq_false hge
      · apply et_is; walk_at "et"; exact decide_eq_false hge
      · apply et_is
        · walk_at "et"
        · rw [decide_eq_false hge, Bool.and_false]
      apply go_skip
      apply go_skip
      refine go_ifT ?_ ?_
      · apply et_is; walk_at "et"; rfl
      apply go_assoc
      apply go_set (w := .d (.int ((Zp.at_ ⟨pre, [], ex⟩ : Nat) + 1 : Int)))
      · walk_at "ev"
      apply go_skip
      apply go_skip
      refine go_next (nx _ _ rfl ⟨?_, _, _, list6 (by rw [en2]; rfl) ?_⟩)
      · skip
        rw [en1]
        show _ = some (p, hsD (hs ++ []))
        rw [List.append_nil]
      · rw [en2]
        rfl
    | cons t ts =>
      have he : ex = 0 := by
        rcases g1 with q | q
        · cases q
        · exact q
      subst he
      have hlt : ((Zp.at_ ⟨pre, t :: ts, 0⟩ : Nat) : Int) < ((upR (Zp.row ⟨pre, t :: ts, 0⟩)).length : Nat) := by
        rw [hlen2]
        unfold Zp.at_ Zp.row
        dsimp only
        rw [List.length_append, List.length_reverse, List.length_cons]
        omega
      have hx : atI (upR (Zp.row ⟨pre, t :: ts, 0⟩)) ((Zp.at_ ⟨pre, t :: ts, 0⟩ : Nat) : Int) = some (up t) := by
        unfold Zp.at_ Zp.row
        dsimp only
        rw [upR_app, upR_cons, Nat.add_zero, atI_nat (by rw [List.length_append, upR_len, List.length_reverse, List.length_cons]; omega)]
        simp [upR]
      have hat : (Zp.at_ ⟨pre, t :: ts, 0⟩ : Nat) < 1000 := by
        have : (Zp.row ⟨pre, t :: ts, 0⟩).length = pre.length + (ts.length + 1) := by unfold Zp.row; rw [List.length_append, List.length_reverse, List.length_cons]
        unfold Zp.at_
        dsimp only
        omega
      by_cases hu : t.1 ∈ [65, 66, 67, 68, 69, 70]
      · -- turn
        have ez : zst ⟨pre, t :: ts, 0⟩ = (some (.turn, [((Zp.at_ ⟨pre, t :: ts, 0⟩ : Nat) : Int)]), ⟨pre, (flp t.1, -t.2.1, -t.2.2) :: ts, 0⟩) := by
          unfold zst
          dsimp only
          rw [if_pos hu]
        refine go_ifT (et_andT ?_ ?_) ?_
        · apply et_is; walk_at "et"; exact decide_eq_true hlt
        · refine et_test (ev_is (ev_op (x := .d (.str (S [t.1]))) (y := .d (.str (Str.ofString "ABCDEF"))) (ev_op (x := .d (tD (up t))) (y := .d (.int 0)) (ev_op (ev_var rfl) (ev_var rfl) (rv_ixRL hx)) ev_int rv_ix0) ev_str rv_inSign) ?_)
          rw [upp_eq]
          exact congrArg (fun z => Da.d (.bool z)) (decide_eq_true hu)
        apply go_assoc
        apply go_set (w := .d (hD (.turn, [((Zp.at_ ⟨pre, t :: ts, 0⟩ : Nat) : Int)]))) (ev_hD2 (k := .turn) (ea_cons ev_str (ea_one (ev_var rfl))))
        apply go_skip
        have hstp := hst g1 ez
        rw [ez] at en1 en2
        refine go_ifF ?_ ?_
        · apply et_is; walk_at "et"; rfl
        apply go_assoc
        apply go_set (w := .d (.list (tsD (upR (zrun a (i + 1)).2.row))))
        · refine ev_is (ec_law_stepped (ea_cons (ev_var rfl) (ea_one (ev_var rfl))) (by omega) hrl (stok_h2 ?_)) ?_
          · have : (((Zp.at_ ⟨pre, t :: ts, 0⟩ : Nat) : Int)).natAbs < 1000 := by omega
            exact Nat.lt_trans this (by decide)
          · rw [hstp, en2]
            rfl
        apply go_assoc
        refine go_append rfl hhs (ev_var rfl) fun w ew => ⟨_, ew, ?_⟩
        apply go_assoc
        apply go_set (w := .d (.int ((zrun a (i + 1)).2.at_ : Nat)))
        · refine ev_is (evn_if (P := Is (.d (.int ((Zp.at_ ⟨pre, t :: ts, 0⟩ : Nat) : Int)))) (Pb := IsB false) ?_ (fun z => nomatch z) fun _ => ev_var rfl) ?_
          · refine et_is (et_k0 rfl) (by decide +kernel)
          · rw [en2]
            rfl
        apply go_skip
        apply go_skip
        refine go_next (nx _ _ rfl ⟨?_, _, _, rfl⟩)
        rw [en1, hsD_app]
        rfl
      · by_cases hq : (t.2.1 == 0 && t.2.2 == 0) = true
        · -- out
          refine go_ifF (et_andT ?_ ?_) (go_assoc (go_ifT (et_andT ?_ ?_) ?_))
          · apply et_is; walk_at "et"; exact decide_eq_true hlt
          · refine et_test (ev_is (ev_op (x := .d (.str (S [t.1]))) (y := .d (.str (Str.ofString "ABCDEF"))) (ev_op (x := .d (tD (up t))) (y := .d (.int 0)) (ev_op (ev_var rfl) (ev_var rfl) (rv_ixRL hx)) ev_int rv_ix0) ev_str rv_inSign) ?_)
            rw [upp_eq]
            exact congrArg (fun z => Da.d (.bool z)) (decide_eq_false hu)
          · apply et_is; walk_at "et"; exact decide_eq_true hlt
          · refine et_test (ev_is (ev_op (x := .d (.tuple [.int t.2.1, .int t.2.2])) (y := .d (.tuple [.int 0, .int 0])) (ev_is (ev_sl (lo := some 1) (hi := none) (w := .d (tD (up t))) (ev_op (ev_var rfl) (ev_var rfl) (rv_ixRL hx)) (eo_some ev_int) eo_none (rs_tup (xs := [.str (S [t.1]), .int t.2.1, .int t.2.2]))) (by rw [cutP_tail])) (ev_tup (xs := [.int 0, .int 0]) (ea_cons ev_int (ea_one ev_int)) (by simp)) (rv_eqD rfl rfl rfl)) ?_)
            have : PyData.eqv (.tuple [.int t.2.1, .int t.2.2]) (.tuple [.int 0, .int 0]) = (t.2.1 == 0 && t.2.2 == 0) := by simp [PyData.eqv, PyData.eqvAll]
            rw [this]
            exact congrArg (fun z => Da.d (.bool z)) hq
          apply go_assoc
          apply go_set (w := .d (hD (.out, [((Zp.at_ ⟨pre, t :: ts, 0⟩ : Nat) : Int)]))) (ev_hD2 (k := .out) (ea_cons ev_str (ea_one (ev_var rfl))))
          apply go_skip
          apply go_skip
          cases pre with
          | nil =>
            have ez : zst ⟨[], t :: ts, 0⟩ = (some (.out, [((Zp.at_ ⟨[], t :: ts, 0⟩ : Nat) : Int)]), ⟨[], ts, 0⟩) := by
              unfold zst
              dsimp only
              rw [if_neg hu, if_pos hq]
            have hstp := hst g1 ez
            rw [ez] at en1 en2
            refine go_ifF ?_ ?_
            · apply et_is; walk_at "et"; rfl
            apply go_assoc
            apply go_set (w := .d (.list (tsD (upR (zrun a (i + 1)).2.row))))
            · refine ev_is (ec_law_stepped (ea_cons (ev_var rfl) (ea_one (ev_var rfl))) (by omega) hrl (stok_h2 ?_)) ?_
              · have : (((Zp.at_ ⟨[], t :: ts, 0⟩ : Nat) : Int)).natAbs < 1000 := by omega
                exact Nat.lt_trans this (by decide)
              · rw [hstp, en2]
                rfl
            apply go_assoc
            refine go_append rfl hhs (ev_var rfl) fun w ew => ⟨_, ew, ?_⟩
            apply go_assoc
            apply go_set (w := .d (.int ((zrun a (i + 1)).2.at_ : Nat)))
            · refine ev_is (evn_if (P := Is (.d (.int (if ((Zp.at_ ⟨[], t :: ts, 0⟩ : Nat) : Int) - 1 > 0 then ((Zp.at_ ⟨[], t :: ts, 0⟩ : Nat) : Int) - 1 else 0)))) (Pb := IsB true) ?_ (fun _ => ?_) fun z => nomatch z) ?_
              · refine et_is (et_k0 rfl) (by decide +kernel)
              · walk_at "ev"
              · rw [en2]
                unfold Zp.at_
                simp only [List.length_cons, List.length_nil, Nat.add_zero]
                first | rfl | (congr 2; split <;> omega)
            apply go_skip
            apply go_skip
            refine go_next (nx _ _ rfl ⟨?_, _, _, rfl⟩)
            rw [en1, hsD_app]
            rfl
          | cons b pre =>
            have ez : zst ⟨b :: pre, t :: ts, 0⟩ = (some (.out, [((Zp.at_ ⟨b :: pre, t :: ts, 0⟩ : Nat) : Int)]), ⟨pre, b :: ts, 0⟩) := by
              unfold zst
              dsimp only
              rw [if_neg hu, if_pos hq]
            have hstp := hst g1 ez
            rw [ez] at en1 en2
            refine go_ifF ?_ ?_
            · apply et_is; walk_at "et"; rfl
            apply go_assoc
            apply go_set (w := .d (.list (tsD (upR (zrun a (i + 1)).2.row))))
            · refine ev_is (ec_law_stepped (ea_cons (ev_var rfl) (ea_one (ev_var rfl))) (by omega) hrl (stok_h2 ?_)) ?_
              · have : (((Zp.at_ ⟨b :: pre, t :: ts, 0⟩ : Nat) : Int)).natAbs < 1000 := by omega
                exact Nat.lt_trans this (by decide)
              · rw [hstp, en2]
                rfl
            apply go_assoc
            refine go_append rfl hhs (ev_var rfl) fun w ew => ⟨_, ew, ?_⟩
            apply go_assoc
            apply go_set (w := .d (.int ((zrun a (i + 1)).2.at_ : Nat)))
            · refine ev_is (evn_if (P := Is (.d (.int (if ((Zp.at_ ⟨b :: pre, t :: ts, 0⟩ : Nat) : Int) - 1 > 0 then ((Zp.at_ ⟨b :: pre, t :: ts, 0⟩ : Nat) : Int) - 1 else 0)))) (Pb := IsB true) ?_ (fun _ => ?_) fun z => nomatch z) ?_
              · refine et_is (et_k0 rfl) (by decide +kernel)
              · walk_at "ev"
              · rw [en2]
                unfold Zp.at_
                simp only [List.length_cons, List.length_nil, Nat.add_zero]
                first | rfl | (congr 2; split <;> omega)
            apply go_skip
            apply go_skip
            refine go_next (nx _ _ rfl ⟨?_, _, _, rfl⟩)
            rw [en1, hsD_app]
            rfl
        · have hq' : (t.2.1 == 0 && t.2.2 == 0) = false := by
            cases q : (t.2.1 == 0 && t.2.2 == 0)
            · rfl
            · exact absurd q hq
          cases pre with
          | nil =>
            have ez : zst ⟨[], t :: ts, 0⟩ = (none, ⟨[t], ts, 0⟩) := by
              unfold zst
              dsimp only
              rw [if_neg hu, if_neg hq]
            refine go_ifF (et_andT ?_ ?_) (go_assoc (go_ifF (et_andT ?_ ?_) (go_assoc (go_ifF (et_andF ?_) (go_skip ?_)))))
            · apply et_is; walk_at "et"; exact decide_eq_true hlt
            · refine et_test (ev_is (ev_op (x := .d (.str (S [t.1]))) (y := .d (.str (Str.ofString "ABCDEF"))) (ev_op (x := .d (tD (up t))) (y := .d (.int 0)) (ev_op (ev_var rfl) (ev_var rfl) (rv_ixRL hx)) ev_int rv_ix0) ev_str rv_inSign) ?_)
              rw [upp_eq]
              exact congrArg (fun z => Da.d (.bool z)) (decide_eq_false hu)
            · apply et_is; walk_at "et"; exact decide_eq_true hlt
            · refine et_test (ev_is (ev_op (x := .d (.tuple [.int t.2.1, .int t.2.2])) (y := .d (.tuple [.int 0, .int 0])) (ev_is (ev_sl (lo := some 1) (hi := none) (w := .d (tD (up t))) (ev_op (ev_var rfl) (ev_var rfl) (rv_ixRL hx)) (eo_some ev_int) eo_none (rs_tup (xs := [.str (S [t.1]), .int t.2.1, .int t.2.2]))) (by rw [cutP_tail])) (ev_tup (xs := [.int 0, .int 0]) (ea_cons ev_int (ea_one ev_int)) (by simp)) (rv_eqD rfl rfl rfl)) ?_)
              have : PyData.eqv (.tuple [.int t.2.1, .int t.2.2]) (.tuple [.int 0, .int 0]) = (t.2.1 == 0 && t.2.2 == 0) := by simp [PyData.eqv, PyData.eqvAll]
              rw [this]
              exact congrArg (fun z => Da.d (.bool z)) hq'
            · apply et_is; walk_at "et"; rfl
            apply go_skip
            apply go_skip
            refine go_ifT ?_ ?_
            · apply et_is; walk_at "et"; rfl
            apply go_assoc
            apply go_set (w := .d (.int ((Zp.at_ ⟨[], t :: ts, 0⟩ : Nat) + 1 : Int)))
            · walk_at "ev"
            apply go_skip
            apply go_skip
            rw [ez] at en1 en2
            refine go_next (nx _ _ rfl ⟨?_, _, _, list6 (by rw [en2]; unfold Zp.row; simp) ?_⟩)
            · rw [en1]
              show _ = some (p, hsD (hs ++ []))
              rw [List.append_nil]
            · rw [en2]
              unfold Zp.at_
              simp
          | cons b pre =>
            have hy : atI (upR (Zp.row ⟨b :: pre, t :: ts, 0⟩)) (((Zp.at_ ⟨b :: pre, t :: ts, 0⟩ : Nat) : Int) - 1) = some (up b) := by
              unfold Zp.at_ Zp.row
              dsimp only
              rw [List.length_cons, Nat.add_zero, show (((pre.length + 1 : Nat) : Int) - 1) = ((pre.length : Nat) : Int) by omega]
              rw [List.reverse_cons, List.append_assoc, upR_app, atI_nat (by rw [List.length_append, upR_len, List.length_reverse, upR_len]; simp)]
              simp [upR]
            have hpos : (0 : Int) < ((Zp.at_ ⟨b :: pre, t :: ts, 0⟩ : Nat) : Int) := by
              unfold Zp.at_
              dsimp only
              rw [List.length_cons]
              omega
            by_cases hj : ([b.1] == [t.1]) = true
            · have ez : zst ⟨b :: pre, t :: ts, 0⟩ = (some (.join, [((Zp.at_ ⟨b :: pre, t :: ts, 0⟩ : Nat) : Int) - 1]), ⟨pre, (b.1, b.2.1 + t.2.1, b.2.2 + t.2.2) :: ts, 0⟩) := by
                unfold zst
                dsimp only
                rw [if_neg hu, if_neg hq, if_pos hj]
              refine go_ifF (et_andT ?_ ?_) (go_assoc (go_ifF (et_andT ?_ ?_) (go_assoc (go_ifT (et_andT ?_ ?_) ?_))))
              · apply et_is; walk_at "et"; exact decide_eq_true hlt
              · refine et_test (ev_is (ev_op (x := .d (.str (S [t.1]))) (y := .d (.str (Str.ofString "ABCDEF"))) (ev_op (x := .d (tD (up t))) (y := .d (.int 0)) (ev_op (ev_var rfl) (ev_var rfl) (rv_ixRL hx)) ev_int rv_ix0) ev_str rv_inSign) ?_)
                rw [upp_eq]
                exact congrArg (fun z => Da.d (.bool z)) (decide_eq_false hu)
              · apply et_is; walk_at "et"; exact decide_eq_true hlt
              · refine et_test (ev_is (ev_op (x := .d (.tuple [.int t.2.1, .int t.2.2])) (y := .d (.tuple [.int 0, .int 0])) (ev_is (ev_sl (lo := some 1) (hi := none) (w := .d (tD (up t))) (ev_op (ev_var rfl) (ev_var rfl) (rv_ixRL hx)) (eo_some ev_int) eo_none (rs_tup (xs := [.str (S [t.1]), .int t.2.1, .int t.2.2]))) (by rw [cutP_tail])) (ev_tup (xs := [.int 0, .int 0]) (ea_cons ev_int (ea_one ev_int)) (by simp)) (rv_eqD rfl rfl rfl)) ?_)
                have : PyData.eqv (.tuple [.int t.2.1, .int t.2.2]) (.tuple [.int 0, .int 0]) = (t.2.1 == 0 && t.2.2 == 0) := by simp [PyData.eqv, PyData.eqvAll]
                rw [this]
                exact congrArg (fun z => Da.d (.bool z)) hq'
              · apply et_is
                · walk_at "et"
                · rw [decide_eq_true hpos, decide_eq_true hlt]
                  rfl
              · refine et_test (ev_is (ev_op (x := .d (.str (S [b.1]))) (y := .d (.str (S [t.1]))) (ev_op (x := .d (tD (up b))) (y := .d (.int 0)) (ev_op (ev_var rfl) (ev_op (ev_var rfl) ev_int rv_int0) (rv_ixRL hy)) ev_int rv_ix0) (ev_op (x := .d (tD (up t))) (y := .d (.int 0)) (ev_op (ev_var rfl) (ev_var rfl) (rv_ixRL hx)) ev_int rv_ix0) rv_eqW) ?_)
                exact congrArg (fun z => Da.d (.bool z)) hj
              apply go_assoc
              apply go_set (w := .d (hD (.join, [((Zp.at_ ⟨b :: pre, t :: ts, 0⟩ : Nat) : Int) - 1]))) (ev_hD2 (k := .join) (ea_cons ev_str (ea_one (ev_op (ev_var rfl) ev_int rv_int0))))
              apply go_skip
              apply go_skip
              apply go_skip
              have hstp := hst g1 ez
              rw [ez] at en1 en2
              refine go_ifF ?_ ?_
              · apply et_is; walk_at "et"; rfl
              apply go_assoc
              apply go_set (w := .d (.list (tsD (upR (zrun a (i + 1)).2.row))))
              · refine ev_is (ec_law_stepped (ea_cons (ev_var rfl) (ea_one (ev_var rfl))) (by omega) hrl (stok_h2 ?_)) ?_
                · have : (((Zp.at_ ⟨b :: pre, t :: ts, 0⟩ : Nat) : Int) - 1).natAbs < 1000 := by omega
                  exact Nat.lt_trans this (by decide)
                · rw [hstp, en2]
                  rfl
              apply go_assoc
              refine go_append rfl hhs (ev_var rfl) fun w ew => ⟨_, ew, ?_⟩
              apply go_assoc
              apply go_set (w := .d (.int ((zrun a (i + 1)).2.at_ : Nat)))
              · refine ev_is (evn_if (P := Is (.d (.int (if ((Zp.at_ ⟨b :: pre, t :: ts, 0⟩ : Nat) : Int) - 1 > 0 then ((Zp.at_ ⟨b :: pre, t :: ts, 0⟩ : Nat) : Int) - 1 else 0)))) (Pb := IsB true) ?_ (fun _ => ?_) fun z => nomatch z) ?_
                · refine et_is (et_k0 rfl) (by decide +kernel)
                · walk_at "ev"
                · rw [en2]
                  unfold Zp.at_
                  simp only [List.length_cons, List.length_nil, Nat.add_zero]
                  first | rfl | (congr 2; split <;> omega)
              apply go_skip
              apply go_skip
              refine go_next (nx _ _ rfl ⟨?_, _, _, rfl⟩)
              rw [en1, hsD_app]
              rfl
            · have ez : zst ⟨b :: pre, t :: ts, 0⟩ = (none, ⟨t :: b :: pre, ts, 0⟩) := by
                unfold zst
                dsimp only
                rw [if_neg hu, if_neg hq, if_neg hj]
              have hj' : ([b.1] == [t.1]) = false := by
                cases q : ([b.1] == [t.1])
                · rfl
                · exact absurd q hj
              refine go_ifF (et_andT ?_ ?_) (go_assoc (go_ifF (et_andT ?_ ?_) (go_assoc (go_ifF (et_andT ?_ ?_) (go_skip ?_)))))
              · apply et_is; walk_at "et"; exact decide_eq_true hlt
              · refine et_test (ev_is (ev_op (x := .d (.str (S [t.1]))) (y := .d (.str (Str.ofString "ABCDEF"))) (ev_op (x := .d (tD (up t))) (y := .d (.int 0)) (ev_op (ev_var rfl) (ev_var rfl) (rv_ixRL hx)) ev_int rv_ix0) ev_str rv_inSign) ?_)
                rw [upp_eq]
                exact congrArg (fun z => Da.d (.bool z)) (decide_eq_false hu)
              · apply et_is; walk_at "et"; exact decide_eq_true hlt
              · refine et_test (ev_is (ev_op (x := .d (.tuple [.int t.2.1, .int t.2.2])) (y := .d (.tuple [.int 0, .int 0])) (ev_is (ev_sl (lo := some 1) (hi := none) (w := .d (tD (up t))) (ev_op (ev_var rfl) (ev_var rfl) (rv_ixRL hx)) (eo_some ev_int) eo_none (rs_tup (xs := [.str (S [t.1]), .int t.2.1, .int t.2.2]))) (by rw [cutP_tail])) (ev_tup (xs := [.int 0, .int 0]) (ea_cons ev_int (ea_one ev_int)) (by simp)) (rv_eqD rfl rfl rfl)) ?_)
                have : PyData.eqv (.tuple [.int t.2.1, .int t.2.2]) (.tuple [.int 0, .int 0]) = (t.2.1 == 0 && t.2.2 == 0) := by simp [PyData.eqv, PyData.eqvAll]
                rw [this]
                exact congrArg (fun z => Da.d (.bool z)) hq'
              · apply et_is
                · walk_at "et"
                · rw [decide_eq_true hpos, decide_eq_true hlt]
                  rfl
              · refine et_test (ev_is (ev_op (x := .d (.str (S [b.1]))) (y := .d (.str (S [t.1]))) (ev_op (x := .d (tD (up b))) (y := .d (.int 0)) (ev_op (ev_var rfl) (ev_op (ev_var rfl) ev_int rv_int0) (rv_ixRL hy)) ev_int rv_ix0) (ev_op (x := .d (tD (up t))) (y := .d (.int 0)) (ev_op (ev_var rfl) (ev_var rfl) (rv_ixRL hx)) ev_int rv_ix0) rv_eqW) ?_)
                exact congrArg (fun z => Da.d (.bool z)) hj'
              apply go_skip
              apply go_skip
              refine go_ifT ?_ ?_
              · apply et_is; walk_at "et"; rfl
              apply go_assoc
              apply go_set (w := .d (.int ((Zp.at_ ⟨b :: pre, t :: ts, 0⟩ : Nat) + 1 : Int)))
              · walk_at "ev"
              apply go_skip
              apply go_skip
              rw [ez] at en1 en2
              refine go_next (nx _ _ rfl ⟨?_, _, _, list6 (by rw [en2]; unfold Zp.row; simp) ?_⟩)
              · rw [en1]
                show _ = some (p, hsD (hs ++ []))
                rw [List.append_nil]
              · rw [en2]
                unfold Zp.at_
                simp
                omega
  · rintro o' ds' _ ⟨rfl, s4, s5, rfl⟩
    have hl : (rangeP (4 * ((upR a).length : Nat) + 4 : Int)).length = 4 * a.length + 4 := by
      unfold rangeP
      rw [List.length_map, List.length_range, hn]
      omega
    rw [hl]
    refine go_retV (P := Is (.d (cleared a))) R (i := 1) rfl (ev_tup (xs := [.list (tsD (upR (zrun a (4 * a.length + 4)).2.row)), .list (hsD (zrun a (4 * a.length + 4)).1)]) (ea_cons (ev_var rfl) (ea_one (ev_var rfl))) (by simp)) fun w e => e
theorem ec_law_cleared {l : List LT} (h : EvA K r ta ds (IsA [.d (.list (tsD (upR l)))])) (h1 : LOk l) (h2 : l.length ≤ 100) : Ev K r (tCall (sp_law_cleared K) [] E0 ta) ds (Is (.d (cleared l))) := ev_call l h rfl ⟨h1, h2⟩
end
end Kn

set_option Elab.async false
set_option linter.all false
set_option maxRecDepth 100000
set_option maxHeartbeats 4000000
/-! Steps of letters; draws. -/
namespace Kn
open PySem PySem.Spec PyProof.Rows L2
local macro_rules | `(tactic| walk_at "sd") => `(tactic| first | trivial | assumption | walk_at "sz")
local macro_rules | `(tactic| walk_at "sz") => `(tactic| first | assumption | decide | omega | rfl | (simp only [List.length_append, List.length_map, List.length_cons, List.length_nil, List.length_reverse]; omega))
local macro_rules | `(tactic| walk_at "rv") => `(tactic| with_reducible first
  | exact rv_ix0 | exact rv_ix1 | exact rv_ix2 | exact rv_eqI | exact rv_neI | exact rv_eqE | exact rv_neE | exact rv_eqW | exact rv_neW | exact rv_eqS | exact rv_neS
  | exact rv_int0 | exact rv_bl0
  | exact rv_ixT0 | exact rv_ixT1
  | exact rv_ixRT (by assumption) | exact rv_ixRL (by assumption) | (apply rv_ixW; walk_at "sz"; assumption)
  | (refine rv_addW ?_; walk_at "sz")
  | (refine rv_catRT ?_; walk_at "sz") | (refine rv_catRL ?_; walk_at "sz")
  | (refine rv_intC ?_; assumption) | (apply rv_mulW; walk_at "sz"; walk_at "sz"; walk_at "sz")
  | exact rv_inW | exact rv_inSign | exact rv_isN | exact rv_notN | exact rv_notBl
  | exact rv_ixT (by with_unfolding_all rfl) | exact rv_ixL (by with_unfolding_all rfl)
  | exact rv_ixT (by assumption) | exact rv_ixL (by assumption)
  | (refine rv_catA ?_; walk_at "sz") | (refine rv_cat ?_; walk_at "sz"))
local macro_rules | `(tactic| walk_at "rs") => `(tactic| with_reducible first
  | exact rs_rT | exact rs_rL
  | (refine rs_w ?_ ?_; walk_at "sz"; (with_unfolding_all first | exact Nat.zero_le _ | exact HT.sIx_le _ _ (Nat.zero_le _) _ | assumption))
  | exact rs_tup | exact rs_list
  | (refine rs_str ?_; walk_at "sz"))
local macro_rules | `(tactic| walk_at "rc") => `(tactic| with_reducible first
  | exact rc_lenD3 | exact rc_lenRT | exact rc_lenRL | exact rc_lenT | exact rc_lenL | (refine rc_lenW ?_; walk_at "sz") | (refine rc_lenS ?_; walk_at "sz")
  | exact rc_isi (kit_int _) | exact rc_isi (kit_bool _) | exact rc_isi (kit_str _) | exact rc_isi (kit_tup _)
  | exact rc_max | exact rc_min | exact rc_int | exact rc_abs | exact rc_all | exact rc_tupL | exact rc_tupT | exact rc_list | exact rc_listT | (refine rc_listW ?_; walk_at "sz"))
local macro_rules | `(tactic| walk_at "rm") => `(tactic| first | (with_reducible apply rm_lowW; assumption; walk_at "sz") | (with_reducible apply rm_upW; assumption; walk_at "sz"))
local macro_rules | `(tactic| walk_at "ea") => `(tactic| first
  | with_reducible exact ea_nil
  | ((with_reducible apply ea_cons); walk_at "ev"; walk_at "ea"))
local macro_rules | `(tactic| walk_at "eo") => `(tactic| first
  | with_reducible exact eo_none
  | ((with_reducible apply eo_some); walk_at "ev"))
local macro_rules | `(tactic| walk_at "et") => `(tactic| first
  | ((with_reducible apply et_test); walk_at "ev")
  | ((with_reducible apply et_B); walk_at "ev")
  | ((with_reducible apply et_not); walk_at "et")
  | ((with_reducible apply et_and); walk_at "et"; intro _; walk_at "et")
  | ((with_reducible apply et_or); walk_at "et"; intro _; walk_at "et"))
local macro_rules | `(tactic| walk_at "ev") => `(tactic| first
  | with_reducible exact ev_int | with_reducible exact ev_str | with_reducible exact ev_bl | with_reducible exact ev_non | with_reducible exact ev_val
  | ((with_reducible apply ev_var); exact rfl)
  | ((with_reducible apply ev_op); walk_at "ev"; walk_at "ev"; walk_at "rv")
  | ((with_reducible apply ev_un); walk_at "ev"; exact ru_neg)
  | ((with_reducible apply ev_and); walk_at "ev"; intro _; walk_at "ev")
  | ((with_reducible apply ev_or); walk_at "ev"; intro _; walk_at "ev")
  | ((with_reducible apply ev_not); walk_at "ev")
  | ((with_reducible apply ev_sl); walk_at "ev"; walk_at "eo"; walk_at "eo"; walk_at "rs")
  | ((with_reducible apply ev_chain); walk_at "ev"; walk_at "ev"; walk_at "rv"; (intro _; walk_at "ev"); (intro _; walk_at "rv"))
  | walk_at "ec"
  | ((with_reducible apply ev_if); walk_at "et"; (intro _; walk_at "ev"); (intro _; walk_at "ev"))
  | ((with_reducible apply ev_m0); walk_at "ev"; walk_at "rm")
  | ((with_reducible apply ev_cb); walk_at "ea"; walk_at "rc")
  | ((with_reducible apply ev_tD); walk_at "ea")
  | with_reducible exact ev_rT0 | with_reducible exact ev_rL0
  | ((with_reducible apply ev_rT1); walk_at "ea") | ((with_reducible apply ev_rT2); walk_at "ea") | ((with_reducible apply ev_rT3); walk_at "ea")
  | ((with_reducible apply ev_rL1); walk_at "ea") | ((with_reducible apply ev_rL2); walk_at "ea") | ((with_reducible apply ev_rL3); walk_at "ea") | ((with_reducible apply ev_rL4); walk_at "ea")
  | ((with_reducible apply ev_revW); walk_at "ev"; walk_at "sz")
  | ((with_reducible apply ev_revL); walk_at "ev")
  | ((with_reducible apply ev_revT); walk_at "ev"))
local macro_rules | `(tactic| walk_at "ret") => `(tactic| (apply go_retE; assumption; exact rfl; walk_at "ev"))
local macro_rules | `(tactic| walk_at "if") => `(tactic| (apply go_if; walk_at "et"))
local macro_rules | `(tactic| walk_at "set") => `(tactic| (apply go_set; walk_at "ev"))
local macro_rules | `(tactic| walk_at "eg") => `(tactic| first | exact eg_name (by decide) | exact eg_tD (by decide) (by decide) (by decide))
local macro_rules | `(tactic| walk_at "ec") => `(tactic| first | ((with_reducible apply ec_law_stepped); walk_at "ea"; walk_at "sd"; walk_at "sd"; walk_at "sd") | ((with_reducible apply ec_law_faced); walk_at "ea"; walk_at "sd"))
section
variable {P : Program} {w w' : World} {K K' : PySem.W.Frag} {mg : Str → Option Value} {base : Heap} {r : Res} {ds : Sl} {ta : TA}
def endZ (l : List LT) : Zp := (zrun l (4 * l.length + 4)).2
def letterSteps (l : List LT) : List HS := (zrun l (4 * l.length + 4)).1 ++ faced (upR (endZ l).row)
theorem faced_len (l : Row) : (faced l).length ≤ l.length := by
  unfold faced
  rw [List.length_map]
  exact Nat.le_trans (List.length_filter_le _ _) (Nat.le_of_eq List.length_range)
def sp_law_letter_steps (K : PySem.W.Frag) : Sp := spP K (fun l : List LT => [.d (.list (tsD (upR l)))]) (fun l => LOk l ∧ l.length ≤ 100) fun l => .d (.tuple (hsD (letterSteps l)))
-- slots: 0=_law_row 1=_law_now 2=_law_steps
theorem sc_law_letter_steps : FnScope ["_law_row", "_law_now", "_law_steps"] ["_law_row"] (defScope s_law_letter_steps) := C8.fnScope_by (by decide +kernel)
theorem c_law_letter_steps (T : Tx K mg w) : Cal P w K mg base 6 "_law_letter_steps" ["_law_row"] (sp_law_letter_steps K) := by
  refine calG T.e_law_letter_steps T.g_law_letter_steps sc_law_letter_steps (fun _ _ _ _ _ _ us hl => match us, hl with | [_], _ => rfl) (fun _ _ => rfl) fun f cdv A outer s H E hr => ?_
  refine ⟨_, (pss_cons (ps_asg (pe_c (c_law_cleared T) hr (by decide) (by rfl) (pa_cons (pv 0) pa_nil)) (pg_tup rfl (pgs_cons (pg_name (i := 1) sc_law_letter_steps.nd rfl (Or.inl rfl)) (pgs_cons (pg_name (i := 2) sc_law_letter_steps.nd rfl (Or.inl rfl)) pgs_nil))))
    (pss_cons (ps_ret (pe_callTy call_tuple_of (by rfl) T.f_tuple (by decide +kernel) (pa_cons (pe_op op_cat (pv 2) (pe_c (c_law_faced T) hr (by decide) (by rfl) (pa_cons (pv 1) pa_nil))) pa_nil)))
    pss_nil)), ?_⟩
  intro a r F0 H0 D hp R
  dsimp only [nox_K]
  obtain ⟨hok, hlen⟩ := hp
  obtain ⟨g1, g2, g3⟩ := zrun_ok hok (4 * a.length + 4)
  have g4 := zrun_len a (4 * a.length + 4)
  have g5 := faced_len (upR (zrun a (4 * a.length + 4)).2.row)
  rw [upR_len] at g5
  apply go_unp (P := Is (.d (cleared a))) (vs := [1, 2]) (ec_law_cleared (ea_one (ev_var rfl)) hok hlen)
  intro w e
  subst e
  refine ⟨_, eg_tup (xs := [.list (tsD (upR (zrun a (4 * a.length + 4)).2.row)), .list (hsD (zrun a (4 * a.length + 4)).1)]) (egs_cons (eg_name (by decide)) (egs_cons (eg_name (by decide)) egs_nil)) rfl, ?_⟩
  refine go_retE R rfl (ev_cb (ea_one (ev_op (ev_var rfl) (ec_law_faced (ea_one (ev_var rfl)) (by rw [upR_len]; omega)) (rv_cat ?_))) rc_tupL) ?_
  · unfold hsD
    rw [List.length_map, List.length_map]
    omega
  · rw [← hsD_app]
    rfl
theorem ec_law_letter_steps {l : List LT} (h : EvA K r ta ds (IsA [.d (.list (tsD (upR l)))])) (h1 : LOk l) (h2 : l.length ≤ 100) : Ev K r (tCall (sp_law_letter_steps K) [] E0 ta) ds (Is (.d (.tuple (hsD (letterSteps l))))) := ev_call l h rfl ⟨h1, h2⟩
end
/-! ### the bag, by its three numbers -/
section
variable {B : Bs} {b : Addr} {ds : Sl} {s d c : Int} {te ta tb : TE} {t u : TS} {D : Ends}
structure HB (B : Bs) (b : Addr) (ds : Sl) (s d c : Int) (σ : L2.St) (H : Hp) : Prop where
  r : B.r = some b
  h : Holds B none ds σ H
  at_ : H b = some (bagO s d c)
  slot : ds[0]? = some (some (.v (.ref b)))
def PI (B : Bs) (b : Addr) (ds : Sl) (s d c : Int) (te : TE) (i : Int) : Prop := ∀ σ H, HB B b ds s d c σ H → ∀ Q : VK, Q (.int i) H → te σ H Q
def GoB (B : Bs) (b : Addr) (ds : Sl) (s d c : Int) (t : TS) (D : Ends) : Prop := ∀ σ H, HB B b ds s d c σ H → t D σ H
theorem HB.s0 {σ : L2.St} {H : Hp} (x : HB B b ds s d c σ H) : σ[0]? = some (some (.ref b)) := by
  obtain ⟨v, e1, e2⟩ := x.h.env.at_ 0 _ x.slot
  obtain rfl : v = V.ref b := e2
  exact e1
theorem pi_var {k : Nat} {i : Int} (e : ds[k]? = some (some (.d (.int i)))) : PI B b ds s d c (tVar k) i := fun σ H x Q q => by
  obtain ⟨v, e1, e2⟩ := x.h.env.at_ k _ e
  cases e2
  exact ⟨_, e1, q⟩
theorem pi_int {i : Int} : PI B b ds s d c (tC (.int i)) i := fun σ H x Q q => q
theorem pi_b0 : PI B b ds s d c (tOp (rIxL B.K) (tVar 0) (tC (.int 0))) s := fun σ H x Q q => ⟨.ref b, x.s0, b, [.int s, .int d, .int c], 0, .int s, rfl, rfl, SqL.of x.at_, rfl, q⟩
theorem pi_b1 : PI B b ds s d c (tOp (rIxL B.K) (tVar 0) (tC (.int 1))) d := fun σ H x Q q => ⟨.ref b, x.s0, b, [.int s, .int d, .int c], 1, .int d, rfl, rfl, SqL.of x.at_, rfl, q⟩
theorem pi_b2 : PI B b ds s d c (tOp (rIxL B.K) (tVar 0) (tC (.int 2))) c := fun σ H x Q q => ⟨.ref b, x.s0, b, [.int s, .int d, .int c], 2, .int c, rfl, rfl, SqL.of x.at_, rfl, q⟩
theorem pi_op {g : Int → Int → Int} {i j : Int} (ha : PI B b ds s d c ta i) (hb : PI B b ds s d c tb j) : PI B b ds s d c (tOp (rI0 fun i j => .int (g i j)) ta tb) (g i j) := fun σ H x Q q =>
  ha σ H x _ (hb σ H x _ ⟨i, j, rfl, rfl, q⟩)
theorem pi_opC {C : Int → Int → Prop} {g : Int → Int → Int} {i j : Int} (ha : PI B b ds s d c ta i) (hb : PI B b ds s d c tb j) (h : C i j) : PI B b ds s d c (tOp (rI C fun i j => .int (g i j)) ta tb) (g i j) := fun σ H x Q q =>
  ha σ H x _ (hb σ H x _ ⟨i, j, rfl, rfl, h, q⟩)
theorem pi_int1 {i : Int} (ha : PI B b ds s d c ta i) : PI B b ds s d c (tCB (fun xs H Q => (∃ i, xs = [V.int i] ∧ Q (V.int i) H) ∨ ∃ k, xs = [V.bl k] ∧ Q (V.int (if k = true then 1 else 0)) H) (tCons ta tNil)) i := fun σ H x Q q =>
  ha σ H x _ (.inl ⟨i, rfl, q⟩)
theorem gob_set {k : Nat} {i : Int} (hk : k ≠ 0) (ha : PI B b ds s d c te i) (h : GoB B b (ds.set k (some (.d (.int i)))) s d c u D) : GoB B b ds s d c (tSeq (tAsg te (gName k)) u) D := fun σ H x =>
  ha σ H x _ (h _ H ⟨x.r, x.h.set k (v := .int i) (w := .d (.int i)) (Rp.int i), x.at_, by rw [List.getElem?_set_ne hk]; exact x.slot⟩)
theorem HB.put {σ : L2.St} {H : Hp} {s' d' c' : Int} (x : HB B b ds s d c σ H) (h1 : 0 ≤ s') (h2 : s' < 2147483587) (h3 : 0 ≤ d') : HB B b ds s' d' c' σ (upd H b (bagO s' d' c')) := by
  have hb : b ∈ B.r.adr := by rw [x.r]; exact List.mem_singleton.mpr rfl
  have sm : Same (hide (hid B.F B.r) H) (hide (hid B.F B.r) (upd H b (bagO s' d' c'))) := fun a o h => by
    obtain ⟨n, h'⟩ := hide_of h
    refine hide_at n ?_
    rw [upd_ne fun e => n (List.mem_append_left _ (by rw [e]; exact hb))]
    exact h'
  have nb : ∀ a, a ∈ B.F → a ≠ b := fun a ha e => (x.h.f0 a ha).2 (by rw [e]; exact hb)
  refine ⟨x.r, ⟨⟨fun q e => ?_, fun a o ha hn => ?_, fun a ha => ?_⟩, x.h.f0, fun a ha => ⟨?_, (x.h.fok a ha).2⟩, fun p e => (nomatch e), x.h.env.same sm⟩, upd_same, x.slot⟩
  · rw [x.r] at e
    cases e
    exact ⟨s', d', c', upd_same, h1, h2, h3⟩
  · have : a ≠ b := fun e => hn (by rw [e]; exact hb)
    rw [upd_ne this]
    exact x.h.stp.keep a o ha hn
  · by_cases e : a = b
    · rw [e, upd_same] at ha
      cases ha
    · rw [upd_ne e] at ha
      exact x.h.stp.dom a ha
  · rw [upd_ne (nb a ha)]
    exact (x.h.fok a ha).1
theorem gob_put0 {i : Int} (ha : PI B b ds s d c te i) (h1 : 0 ≤ i) (h2 : i < 2147483587) (hd : 0 ≤ d) (h : GoB B b ds i d c u D) : GoB B b ds s d c (tSeq (tAsg te (gSub (tVar 0) (tC (.int 0)) rSetL)) u) D := fun σ H x =>
  ha σ H x _ ⟨.ref b, x.s0, b, [.int s, .int d, .int c], 0, 0, rfl, rfl, x.at_, rfl, h _ _ (x.put h1 h2 hd)⟩
theorem gob_put2 {i : Int} (ha : PI B b ds s d c te i) (h1 : 0 ≤ s) (h2 : s < 2147483587) (hd : 0 ≤ d) (h : GoB B b ds s d i u D) : GoB B b ds s d c (tSeq (tAsg te (gSub (tVar 0) (tC (.int 2)) rSetL)) u) D := fun σ H x =>
  ha σ H x _ ⟨.ref b, x.s0, b, [.int s, .int d, .int c], 2, 2, rfl, rfl, x.at_, rfl, h _ _ (x.put h1 h2 hd)⟩
theorem gob_if {i j : Int} {t2 : TS} (ha : PI B b ds s d c ta i) (hb : PI B b ds s d c tb j) (k1 : j < i → GoB B b ds s d c (tSeq t u) D) (k2 : ¬ j < i → GoB B b ds s d c (tSeq t2 u) D) :
    GoB B b ds s d c (tSeq (tIfS (tTest (tOp (rI0 fun i j => .bl (decide (j < i))) ta tb)) t t2) u) D := fun σ H x => by
  refine ha σ H x _ (hb σ H x _ ⟨i, j, rfl, rfl, decide (j < i), rfl, ?_⟩)
  by_cases h : j < i
  · dsimp only
    rw [if_pos (decide_eq_true h)]
    exact k1 h σ H x
  · dsimp only
    rw [if_neg (by rw [decide_eq_false h]; exact Bool.false_ne_true)]
    exact k2 h σ H x
theorem go_bag (hr : B.r = some b) (slot : ds[0]? = some (some (.v (.ref b)))) (k : ∀ s d c : Int, 0 ≤ s → s < 2147483587 → 0 ≤ d → GoB B b ds s d c t D) : Go B none ds t D := fun σ H x => by
  obtain ⟨s1, d1, c1, hH, b1, b2, b3⟩ := x.stp.on b hr
  exact k s1 d1 c1 b1 b2 b3 σ H ⟨hr, x, hH, slot⟩
theorem gob_assoc {a b' c' : TS} (h : GoB B b ds s d c (tSeq a (tSeq b' c')) D) : GoB B b ds s d c (tSeq (tSeq a b') c') D := h
theorem gob_skip (h : GoB B b ds s d c u D) : GoB B b ds s d c (tSeq tNext u) D := h
theorem gob_ret (R : Rt B D) {i : Int} (ha : PI B b ds s d c te i) (k : B.post (.d (.int i))) : GoB B b ds s d c (tSeq (tRet te) u) D := fun σ H x =>
  ha σ H x _ (R.rt _ H _ k x.h.stp (Rp.int i))
theorem gob_divmod {i j : Int} {n : Nat} (hn : n = 2) (ha : PI B b ds s d c ta i) (hb : PI B b ds s d c tb j) (hc : CDiv i j) (h1 : 0 ≤ s) (h2 : s < 2147483587) (hd : 0 ≤ i / j) (h : GoB B b (ds.set 4 (some (.d (.int (i % j))))) s (i / j) c u D) :
    GoB B b ds s d c (tSeq (tAsg (tCB (fun xs H Q => ∃ i j, xs = [V.int i, V.int j] ∧ CDiv i j ∧ ∀ (p : Addr), H p = none → Q (V.ref p) (upd H p (HO.tup [V.int (i / j), V.int (i % j)]))) (tCons ta (tCons tb tNil))) (gTup B.K n (gCons (gSub (tVar 0) (tC (.int 1)) rSetL) (gCons (gName 4) gNil)))) u) D := fun σ H x => by
  refine ha σ H x _ (hb σ H x _ ⟨i, j, rfl, hc, fun p np => ?_⟩)
  have s1 := Stp.new (o := HO.tup [V.int (i / j), V.int (i % j)]) x.h.stp.on np
  have nb : b ≠ p := fun e => by
    have := x.at_
    rw [e, np] at this
    cases this
  have x1 : HB B b ds s d c σ (upd H p (HO.tup [V.int (i / j), V.int (i % j)])) := ⟨x.r, x.h.step s1, by rw [upd_ne nb]; exact x.at_, x.slot⟩
  refine ⟨p, _, rfl, .inl (.inl upd_same), hn.symm, ?_⟩
  refine ⟨_, _, rfl, .ref b, x1.s0, b, [.int s, .int d, .int c], 1, 1, rfl, rfl, x1.at_, rfl, ?_⟩
  have x2 := x1.put (s' := s) (d' := i / j) (c' := c) h1 h2 hd
  refine ⟨_, _, rfl, rfl, ?_⟩
  exact h _ _ ⟨x2.r, x2.h.set 4 (v := .int (i % j)) (w := .d (.int (i % j))) (Rp.int _), x2.at_, by rw [List.getElem?_set_ne (by decide)]; exact x2.slot⟩
end
section
variable {P : Program} {w w' : World} {K K' : PySem.W.Frag} {mg : Str → Option Value} {base : Heap} {r : Res} {ds : Sl} {ta : TA}
/-- a draw below n -/
def Dr (n : Nat) (w : Da) : Prop := ∃ k : Nat, w = .d (.int (k : Nat)) ∧ k < n
def sp_law_take (K : PySem.W.Frag) : Sp := spB K (fun n : Nat => [.d (.int (n : Nat))]) (fun n => 0 < n ∧ n < 1000) fun n => Dr n
theorem dr_mod {n : Nat} {i : Int} (h : 0 < n) : Dr n (.d (.int (i % (n : Nat)))) := by
  have h1 := Int.emod_nonneg i (show ((n : Nat) : Int) ≠ 0 by omega)
  have h2 := Int.emod_lt_of_pos i (show (0 : Int) < ((n : Nat) : Int) by omega)
  exact ⟨(i % (n : Nat)).toNat, by rw [Int.toNat_of_nonneg h1], by omega⟩
-- slots: 0=_law_bag_here 1=_law_many 2=_law_seed 3=_law_high 4=_law_digit
theorem sc_law_take : FnScope ["_law_bag_here", "_law_many", "_law_seed", "_law_high", "_law_digit"] ["_law_bag_here", "_law_many"] (defScope s_law_take) := C8.fnScope_by (by decide +kernel)
theorem c_law_take (T : Tx K mg w) : Cal P w K mg base 1 "_law_take" ["_law_bag_here", "_law_many"] (sp_law_take K) := by
  refine calG T.e_law_take T.g_law_take sc_law_take (fun _ _ _ _ _ _ us hl => match us, hl with | [_, _], _ => rfl) (fun _ _ => rfl) fun f cdv A outer s H E hr => ?_
  refine ⟨_, (pss_cons (ps_asg (pe_op op_add (pe_ix ix_list (pv 0) pe_int (fun _ _ => rfl)) pe_int) (pg_sub (pv 0) pe_int set_list))
    (pss_cons (ps_set (i := 2) sc_law_take.nd rfl (Or.inl rfl) (pe_callTy call_int1 (by rfl) T.f_int (by decide +kernel) (pa_cons (pe_ix ix_list (pv 0) pe_int (fun _ _ => rfl)) pa_nil)))
    (pss_cons (ps_set (i := 3) sc_law_take.nd rfl (Or.inl rfl) (pe_op op_fdiv (pv 2) pe_int))
    (pss_cons (ps_asg (pe_op op_mod (pe_callTy call_int1 (by rfl) T.f_int (by decide +kernel) (pa_cons (pe_op op_add (pe_op op_add (pe_op op_add (pe_op op_mul (pv 2) pe_int) (pe_op op_mul (pv 3) (pv 3))) (pe_op op_mul pe_int (pe_ix ix_list (pv 0) pe_int (fun _ _ => rfl)))) pe_int) pa_nil)) pe_int) (pg_sub (pv 0) pe_int set_list))
    (pss_cons (ps_if (pt_cmpR op_gt (pe_ix ix_list (pv 0) pe_int (fun _ _ => rfl)) pe_int (nomark _)) (pss_cons (ps_asg (pe_callB call_divmod (by rfl) T.f_divmod (by decide +kernel) (pa_cons (pe_ix ix_list (pv 0) pe_int (fun _ _ => rfl)) (pa_cons (pv 1) pa_nil))) (pg_tup rfl (pgs_cons (pg_sub (pv 0) pe_int set_list) (pgs_cons (pg_name (i := 4) sc_law_take.nd rfl (Or.inl rfl)) pgs_nil))))
    (pss_cons (ps_ret (pv 4))
    pss_nil)) pss_nil)
    (pss_cons (ps_ret (pe_op op_mod (pe_callTy call_int1 (by rfl) T.f_int (by decide +kernel) (pa_cons (pe_op op_fdiv (pe_ix ix_list (pv 0) pe_int (fun _ _ => rfl)) pe_int) pa_nil)) (pv 1)))
    pss_nil)))))), ?_⟩
  intro a r F0 H0 D hp R
  dsimp only [nox_K]
  obtain ⟨hr1, h0, h1⟩ := hp
  obtain ⟨b, rfl⟩ := Option.isSome_iff_exists.mp hr1
  refine go_bag rfl rfl fun s1 d1 c1 b1 b2 b3 => ?_
  refine gob_put2 (pi_op pi_b2 pi_int) b1 b2 b3 ?_
  refine gob_set (by decide) (pi_int1 pi_b0) ?_
  have q1 : 0 ≤ s1 / 4093 := Int.ediv_nonneg b1 (by decide)
  have q2 : s1 / 4093 ≤ s1 := by omega
  refine gob_set (by decide) (pi_opC (pi_var rfl) pi_int ⟨by decide, by decide⟩) ?_
  refine gob_put0 (pi_opC (pi_int1 (pi_op (pi_op (pi_op (pi_opC (pi_var rfl) pi_int ?_) (pi_opC (pi_var rfl) (pi_var rfl) ?_)) (pi_opC pi_int pi_b2 ?_)) pi_int)) pi_int (by decide)) (Int.emod_nonneg _ (by decide)) (Int.emod_lt_of_pos _ (by decide)) b3 ?_
  · exact .inr ⟨by decide, by decide⟩
  · exact .inr ⟨by omega, by omega⟩
  · exact .inl ⟨by decide, by decide⟩
  refine gob_if pi_b1 pi_int (fun e => ?_) fun e => ?_
  · apply gob_assoc
    refine gob_divmod rfl pi_b1 (pi_var rfl) ⟨by omega, by omega⟩ (Int.emod_nonneg _ (by decide)) (Int.emod_lt_of_pos _ (by decide)) (Int.ediv_nonneg b3 (by omega)) ?_
    apply gob_assoc
    exact gob_ret R (pi_var rfl) (dr_mod h0)
  · apply gob_skip
    exact gob_ret R (pi_opC (pi_int1 (pi_opC pi_b0 pi_int ⟨by decide, by decide⟩)) (pi_var rfl) (by show (0 : Int) < _; omega)) (dr_mod h0)
theorem ec_law_take {n : Nat} {b : Addr} (h : EvA K (some b) ta ds (IsA [.v (.ref b), .d (.int (n : Nat))])) (h1 : 0 < n) (h2 : n < 1000) : Ev K (some b) (tCall (sp_law_take K) [] E0 ta) ds (Dr n) := ev_callB n h rfl rfl ⟨h1, h2⟩
end
end Kn

set_option Elab.async false
set_option linter.all false
set_option maxRecDepth 100000
set_option maxHeartbeats 4000000
/-! The plain law of single letters: the steps lead to nothing just if nothing lasts. -/
namespace Kn
open PySem PySem.Spec PyProof.Rows L2
def Nz (t : LT) : Prop := t.1 ∉ [65, 66, 67, 68, 69, 70] ∧ ¬ (t.2.1 == 0 && t.2.2 == 0) = true ∧ t.1 ∈ Lt
def Red : List LT → Prop
  | [] => True
  | [t] => Nz t
  | t :: a :: r => Nz t ∧ a.1 ≠ t.1 ∧ Red (a :: r)
theorem Red.tail {t : LT} {r : List LT} (h : Red (t :: r)) : Red r := by
  cases r with
  | nil => trivial
  | cons a r => exact h.2.2
theorem Red.head {t : LT} {r : List LT} (h : Red (t :: r)) : Nz t := by
  cases r with
  | nil => exact h
  | cons a r => exact h.1
theorem low_of : ∀ c ∈ Lt, c ∉ [65, 66, 67, 68, 69, 70] → PyProof.Rows.lo1 c = c := by decide
theorem upp_of : ∀ c ∈ Lt, c ∈ [65, 66, 67, 68, 69, 70] → PyProof.Rows.lo1 c = flp c ∧ c ≠ flp c ∧ PyProof.Rows.lo1 (flp c) = flp c ∧ flp c ∉ [65, 66, 67, 68, 69, 70] := by decide
theorem lowT_low {t : LT} (h : t.1 ∈ Lt) (hn : t.1 ∉ [65, 66, 67, 68, 69, 70]) : lowT t = t := by
  unfold lowT
  rw [low_of _ h hn, if_pos (beq_self_eq_true _)]
theorem addT_nz (st : List LT) {t : LT} (h : ¬ (t.2.1 == 0 && t.2.2 == 0) = true) : addT st t = t :: st := by
  unfold addT
  rw [if_pos]
  cases h1 : (t.2.1 == 0) <;> cases h2 : (t.2.2 == 0) <;> first | rfl | (rw [h1, h2] at h; exact absurd rfl h)
theorem addT_z (st : List LT) {t : LT} (h : (t.2.1 == 0 && t.2.2 == 0) = true) : addT st t = st := by
  unfold addT
  rw [Bool.and_eq_true] at h
  rw [h.1, h.2]
  rfl
theorem beq_one {a b : Nat} (h : a ≠ b) : ¬ ([a] == [b]) = true := fun e => h (List.cons.inj (eq_of_beq e)).1
theorem push_red {pre : List LT} {t : LT} (h : Red (t :: pre)) : pushT pre t = t :: pre := by
  have hz := h.head
  unfold pushT
  rw [lowT_low hz.2.2 hz.1, low_of _ hz.2.2 hz.1]
  cases pre with
  | nil => exact addT_nz _ hz.2.1
  | cons a pre =>
    dsimp only
    rw [if_neg (beq_one h.2.1)]
    exact addT_nz _ hz.2.1
def lf (st : List LT) (l : List LT) : List LT := l.foldl pushT st
theorem lf_cons (st : List LT) (t : LT) (l : List LT) : lf st (t :: l) = lf (pushT st t) l := rfl
def J (z : Zp) : List LT := lf z.pre z.post
theorem zst_J (z : Zp) (hr : Red z.pre) (hl : LOk z.post) : Red (zst z).2.pre ∧ J (zst z).2 = J z := by
  obtain ⟨pre, post, ex⟩ := z
  dsimp only at hr hl
  unfold zst J
  cases post with
  | nil => exact ⟨hr, rfl⟩
  | cons t ts =>
    have ht := hl t List.mem_cons_self
    dsimp only
    split
    · next hu =>
      obtain ⟨u1, u2, u3, u4⟩ := upp_of _ ht hu
      refine ⟨hr, ?_⟩
      dsimp only
      rw [lf_cons, lf_cons]
      have e : lowT (flp t.1, -t.2.1, -t.2.2) = lowT t := by
        unfold lowT
        dsimp only
        rw [u3, u1, if_pos (beq_self_eq_true _), if_neg (beq_one u2)]
      have e2 : pushT pre (flp t.1, -t.2.1, -t.2.2) = pushT pre t := by
        unfold pushT
        rw [e]
        dsimp only
        rw [u3, u1]
      rw [e2]
    · next hu =>
      have lt := lowT_low ht hu
      have lo := low_of _ ht hu
      split
      · next hq =>
        rw [Bool.and_eq_true] at hq
        have q1 : t.2.1 = 0 := eq_of_beq hq.1
        have q2 : t.2.2 = 0 := eq_of_beq hq.2
        have zz : (t.2.1 == 0 && t.2.2 == 0) = true := by rw [q1, q2]; rfl
        cases pre with
        | nil =>
          refine ⟨trivial, ?_⟩
          dsimp only
          rw [lf_cons]
          have : pushT [] t = [] := by
            unfold pushT
            dsimp only
            rw [lt]
            exact addT_z _ zz
          rw [this]
        | cons a pre =>
          refine ⟨hr.tail, ?_⟩
          dsimp only
          rw [lf_cons, lf_cons, push_red hr]
          have : pushT (a :: pre) t = a :: pre := by
            unfold pushT
            dsimp only
            rw [lt, lo]
            split
            · next he =>
              have he' : a.1 = t.1 := (List.cons.inj (eq_of_beq he)).1
              rw [q1, q2, Int.zero_add, Int.zero_add, ← he']
              exact addT_nz _ hr.head.2.1
            · exact addT_z _ zz
          rw [this]
      · next hq =>
        cases pre with
        | nil =>
          have hz : Nz t := ⟨hu, hq, ht⟩
          refine ⟨hz, ?_⟩
          dsimp only
          rw [lf_cons, push_red (pre := []) hz]
        | cons a pre =>
          dsimp only
          split
          · next he =>
            have he' : a.1 = t.1 := (List.cons.inj (eq_of_beq he)).1
            refine ⟨hr.tail, ?_⟩
            dsimp only
            rw [lf_cons, lf_cons]
            have e1 : pushT (a :: pre) t = addT pre (a.1, a.2.1 + t.2.1, a.2.2 + t.2.2) := by
              unfold pushT
              dsimp only
              rw [lt, lo, if_pos he, Int.add_comm t.2.1, Int.add_comm t.2.2, he']
            have ha := hr.head
            have e2 : pushT pre (a.1, a.2.1 + t.2.1, a.2.2 + t.2.2) = addT pre (a.1, a.2.1 + t.2.1, a.2.2 + t.2.2) := by
              have l1 : lowT (a.1, a.2.1 + t.2.1, a.2.2 + t.2.2) = (a.1, a.2.1 + t.2.1, a.2.2 + t.2.2) := lowT_low ha.2.2 ha.1
              unfold pushT
              cases pre with
              | nil =>
                dsimp only
                rw [l1]
              | cons b pre =>
                dsimp only
                rw [l1, low_of _ ha.2.2 ha.1, if_neg (beq_one hr.2.1)]
            rw [e1, e2]
          · next he =>
            have hz : Nz t := ⟨hu, hq, ht⟩
            have hred : Red (t :: a :: pre) := ⟨hz, fun e => he (by rw [e]; exact beq_self_eq_true _), hr⟩
            refine ⟨hred, ?_⟩
            dsimp only
            rw [lf_cons, push_red hred]
def upN (l : List LT) : Nat := (l.filter fun t => decide (t.1 ∈ [65, 66, 67, 68, 69, 70])).length
theorem upN_cons (t : LT) (l : List LT) : upN (t :: l) = (if t.1 ∈ [65, 66, 67, 68, 69, 70] then 1 else 0) + upN l := by
  unfold upN
  rw [List.filter_cons]
  split
  · next h => rw [List.length_cons, if_pos (of_decide_eq_true h)]; omega
  · next h => rw [if_neg (fun e => h (decide_eq_true e))]; omega
theorem upN_le (l : List LT) : upN l ≤ l.length := List.length_filter_le _ _
def meas (z : Zp) : Nat := upN z.post + 2 * z.row.length + z.post.length
theorem zst_meas (z : Zp) (hr : Red z.pre) (hl : LOk z.post) (hp : z.post ≠ []) : meas (zst z).2 + 1 ≤ meas z := by
  obtain ⟨pre, post, ex⟩ := z
  dsimp only at hr hl hp
  unfold zst meas Zp.row
  cases post with
  | nil => exact absurd rfl hp
  | cons t ts =>
    have ht := hl t List.mem_cons_self
    dsimp only
    split
    · next hu =>
      obtain ⟨u1, u2, u3, u4⟩ := upp_of _ ht hu
      dsimp only
      rw [upN_cons, upN_cons, if_pos hu, if_neg u4]
      simp only [List.length_append, List.length_cons, List.length_reverse]
      omega
    · next hu =>
      split
      · cases pre with
        | nil =>
          dsimp only
          rw [upN_cons, if_neg hu]
          simp only [List.length_append, List.length_cons, List.length_reverse]
          omega
        | cons a pre =>
          dsimp only
          rw [upN_cons, upN_cons, if_neg hu, if_neg hr.head.1]
          simp only [List.length_append, List.length_cons, List.length_reverse]
          omega
      · cases pre with
        | nil =>
          dsimp only
          rw [upN_cons, if_neg hu]
          simp only [List.length_append, List.length_cons, List.length_reverse, List.length_nil]
          omega
        | cons a pre =>
          dsimp only
          split
          · dsimp only
            rw [upN_cons, upN_cons, if_neg hu, if_neg (by exact hr.head.1)]
            simp only [List.length_append, List.length_cons, List.length_reverse]
            omega
          · dsimp only
            rw [upN_cons, if_neg hu]
            simp only [List.length_append, List.length_cons, List.length_reverse]
            omega
theorem zrun_red {l : List LT} (h : LOk l) (n : Nat) : Red (zrun l n).2.pre ∧ J (zrun l n).2 = lastT l ∧ ((zrun l n).2.post = [] ∨ meas (zrun l n).2 + n ≤ 4 * l.length) := by
  induction n with
  | zero =>
    refine ⟨trivial, rfl, .inr ?_⟩
    have := upN_le l
    show upN l + 2 * ([].reverse ++ l).length + l.length + 0 ≤ _
    rw [List.length_append]
    simp only [List.reverse_nil, List.length_nil]
    omega
  | succ n ih =>
    obtain ⟨h1, h2, h3⟩ := ih
    have hok := (Zp.mem (zrun_ok h n).2.1).2
    obtain ⟨k1, k2⟩ := zst_J _ h1 hok
    refine ⟨k1, k2.trans h2, ?_⟩
    show (zst (zrun l n).2).2.post = [] ∨ meas (zst (zrun l n).2).2 + (n + 1) ≤ _
    by_cases hp : (zrun l n).2.post = []
    · left
      generalize (zrun l n).2 = z at hp
      obtain ⟨pre, post, ex⟩ := z
      dsimp only at hp
      subst hp
      rfl
    · have h4 := zst_meas _ h1 hok hp
      rcases h3 with h3 | h3
      · exact absurd h3 hp
      · right; omega
theorem endZ_eq {l : List LT} (h : LOk l) : (endZ l).row = (lastT l).reverse := by
  obtain ⟨h1, h2, h3⟩ := zrun_red h (4 * l.length + 4)
  have hp : (endZ l).post = [] := by
    rcases h3 with h3 | h3
    · exact h3
    · omega
  have h2' : J (endZ l) = lastT l := h2
  unfold J at h2'
  rw [hp] at h2'
  unfold Zp.row
  rw [hp, List.append_nil, ← h2']
  rfl
theorem zrun_steps {l : List LT} (h : LOk l) (n : Nat) : stps (upR l) (hsD (zrun l n).1) = some (upR (zrun l n).2.row) := by
  induction n with
  | zero => rfl
  | succ n ih =>
    show stps (upR l) (hsD ((zrun l n).1 ++ (zst (zrun l n).2).1.toList)) = some (upR (zst (zrun l n).2).2.row)
    rw [hsD_app, stps_app, ih]
    show stps (upR (zrun l n).2.row) _ = _
    have hz := (zrun_ok h n).1
    have hst := @zst_stp (zrun l n).2
    cases q : zst (zrun l n).2 with
    | mk o z' =>
      rw [q] at hst
      cases o with
      | none =>
        show some (upR (zrun l n).2.row) = _
        -- the row stands where no step is made
        have : (zst (zrun l n).2).2.row = (zrun l n).2.row := by
          have q1 : (zst (zrun l n).2).1 = none := by rw [q]
          generalize (zrun l n).2 = z at q1 ⊢
          obtain ⟨pre, post, ex⟩ := z
          unfold zst at q1 ⊢
          cases post with
          | nil => rfl
          | cons t ts =>
            dsimp only at q1 ⊢
            split at q1
            · cases q1
            · split at q1
              · cases q1
              · next h1 h2 =>
                rw [if_neg h1, if_neg h2]
                cases pre with
                | nil => rfl
                | cons a pre =>
                  dsimp only at q1 ⊢
                  split at q1
                  · cases q1
                  · next h3 =>
                    rw [if_neg h3]
                    unfold Zp.row
                    simp
        rw [q] at this
        rw [← this]
      | some s =>
        have := hst hz rfl
        show stps _ [hD s] = _
        rw [stps_cons, this]
        rfl
theorem turn_len {row row' : Row} {i : Int} (h : stp row (hD (.turn, [i])) = some row') : row'.length = row.length := by
  unfold stp at h
  rw [show parse (hD (.turn, [i])) = some ⟨.turn, i, 0, 0⟩ from rfl] at h
  dsimp only at h
  split at h
  · next hf =>
    rw [stpS_repl] at h
    obtain ⟨f1, f2⟩ := fits_in hf
    cases hq : repl row ⟨.turn, i, 0, 0⟩ with
    | none =>
      rw [hq] at h
      cases h
    | some f =>
      rw [hq] at h
      have h' := Option.some.inj h
      have hf1 : f.length = 1 := by
        unfold repl at hq
        split at hq
        · cases hq
          rfl
        · cases hq
      rw [← h']
      have fi1 : 0 ≤ i := f1
      have fi2 : i + ((1 : Nat) : Int) ≤ row.length := f2
      obtain ⟨n, rfl⟩ : ∃ n : Nat, i = n := ⟨i.toNat, by omega⟩
      show (cutG row none (some (n : Int)) ++ f ++ cutG row (some ((n : Int) + ((1 : Nat) : Int))) none).length = _
      rw [show (n : Int) + ((1 : Nat) : Int) = ((n + 1 : Nat) : Int) by omega, cutG_take, cutG_drop]
      simp only [List.length_append, List.length_take, List.length_drop, hf1]
      omega
  · cases h
theorem turns_len (ks : List Nat) : ∀ {row row' : Row}, stps row (hsD (ks.map fun (i : Nat) => (Kd.turn, [(i : Int)]))) = some row' → row'.length = row.length := by
  induction ks with
  | nil =>
    intro row row' h
    cases h
    rfl
  | cons k ks ih =>
    intro row row' h
    have h' : stps row (hD (.turn, [(k : Int)]) :: hsD (ks.map fun (i : Nat) => (Kd.turn, [(i : Int)]))) = some row' := h
    rw [stps_cons] at h'
    cases q : stp row (hD (.turn, [(k : Int)])) with
    | none =>
      rw [q] at h'
      cases h'
    | some r1 =>
      rw [q] at h'
      exact (ih h').trans (turn_len q)
theorem letters_done {l : List LT} (h : LOk l) : isDone (stps (upR l) (hsD (letterSteps l))) = (lastT l).isEmpty := by
  unfold letterSteps
  rw [hsD_app, stps_app, zrun_steps h]
  show isDone (stps (upR (endZ l).row) _) = _
  have he := endZ_eq h
  cases q : lastT l with
  | nil =>
    rw [q] at he
    rw [he]
    rfl
  | cons a r =>
    rw [q] at he
    have hne : (upR (endZ l).row).length ≠ 0 := by
      rw [upR_len, he, List.length_reverse, List.length_cons]
      omega
    cases qs : stps (upR (endZ l).row) (hsD (faced (upR (endZ l).row))) with
    | none => rfl
    | some r1 =>
      have hl := turns_len _ qs
      cases r1 with
      | nil => exact absurd hl.symm hne
      | cons x y => rfl
end Kn

set_option Elab.async false
set_option linter.all false
set_option maxRecDepth 100000
set_option maxHeartbeats 4000000
/-! The plain law of the papers: their steps lead to nothing. -/
namespace Kn
open PySem PySem.Spec PyProof.Rows L2
def srun (row : Row) (l : List HS) : Option Row := stps row (hsD l)
theorem srun_nil (row : Row) : srun row [] = some row := rfl
theorem srun_cons (row : Row) (s : HS) (l : List HS) : srun row (s :: l) = (stp row (hD s)).bind fun r => srun r l := stps_cons row (hD s) (hsD l)
theorem srun_app (row : Row) (l m : List HS) : srun row (l ++ m) = (srun row l).bind fun r => srun r m := by
  unfold srun
  rw [show hsD (l ++ m) = hsD l ++ hsD m from List.map_append, stps_app]
theorem run1 {a b : Row} {x : Tr} {f : Row} {h : HS} {l : List HS} {s : PSt} (hp : parse (hD h) = some s) (hi : s.i = (a.length : Nat)) (hk : s.k.pair = false) (ha : act s x x = some f) : srun (a ++ x :: b) (h :: l) = srun (a ++ f ++ b) l := by
  rw [srun_cons, stp_at1 hp hi hk, ha]
  rfl
theorem run2 {a b : Row} {x y : Tr} {f : Row} {h : HS} {l : List HS} {s : PSt} (hp : parse (hD h) = some s) (hi : s.i = (a.length : Nat)) (hk : s.k.pair = true) (ha : act s x y = some f) : srun (a ++ x :: y :: b) (h :: l) = srun (a ++ f ++ b) l := by
  rw [srun_cons, stp_at2 hp hi hk, ha]
  rfl
theorem und_app (x y : Wd) : und (x ++ y) = und y ++ und x := by unfold und; rw [List.reverse_append, List.map_append]
theorem und_und {x : Wd} (h : LW x) : und (und x) = x := by
  unfold und
  rw [← List.map_reverse, List.reverse_reverse, List.map_map]
  conv => rhs; rw [← List.map_id x]
  exact List.map_congr_left fun c hc => flp_flp c (h c hc)
theorem act_undo {x z : Wd} {c : Nat} {p q i : Int} (hc : c ∈ Lt) : act ⟨.undo, i, (x.length : Nat), 0⟩ (x ++ c :: flp c :: z, p, q) (x ++ c :: flp c :: z, p, q) = some [(x ++ z, p, q)] := by
  have hl : (x ++ c :: flp c :: z).length = x.length + (z.length + 2) := by simp
  have h1 : atI (x ++ c :: flp c :: z) ((x.length : Nat) : Int) = some c := by
    rw [atI_nat (by omega)]
    simp
  have h2 : atI (x ++ c :: flp c :: z) (((x.length : Nat) : Int) + 1) = some (flp c) := by
    rw [show ((x.length : Nat) : Int) + 1 = ((x.length + 1 : Nat) : Int) by omega, atI_nat (by omega)]
    simp
  have hm : meetAt (x ++ c :: flp c :: z) ((x.length : Nat) : Int) = true := by
    unfold meetAt
    rw [h1, h2]
    exact (meets_flp c hc).1
  show aUndo (x ++ c :: flp c :: z, p, q) ((x.length : Nat) : Int) = _
  unfold aUndo
  rw [if_neg (by rw [hm, decide_eq_true (show (0 : Int) ≤ (x.length : Nat) by omega), decide_eq_true (show ((x.length : Nat) : Int) < ((x ++ c :: flp c :: z).length : Int) - 1 by omega)]; decide)]
  dsimp only
  rw [cutG_take, show ((x.length : Nat) : Int) + 2 = ((x.length + 2 : Nat) : Int) by omega, cutG_drop]
  have t1 : (x ++ c :: flp c :: z).take x.length = x := by simp
  have t2 : (x ++ c :: flp c :: z).drop (x.length + 2) = z := by
    rw [List.drop_append]
    simp
  rw [t1, t2]
def undos (i : Int) (n : Nat) : List HS := (List.range n).reverse.map fun (k : Nat) => (Kd.undo, [i, (k : Int)])
theorem undos_succ (i : Int) (n : Nat) : undos i (n + 1) = (Kd.undo, [i, (n : Int)]) :: undos i n := by
  unfold undos
  rw [List.range_succ, List.reverse_append, List.map_append]
  rfl
theorem undo_run (a b : Row) (z : Wd) (p q : Int) : ∀ (n : Nat) (x : Wd), x.length = n → LW x → ∀ l, srun (a ++ (x ++ und x ++ z, p, q) :: b) (undos (a.length : Nat) n ++ l) = srun (a ++ (z, p, q) :: b) l := by
  intro n
  induction n with
  | zero =>
    intro x hx _ l
    have : x = [] := List.eq_nil_of_length_eq_zero hx
    subst this
    rfl
  | succ n ih =>
    intro x hx hw l
    have hne : x ≠ [] := fun h => by rw [h] at hx; cases hx
    obtain ⟨y, c, rfl⟩ : ∃ y c, x = y ++ [c] := ⟨x.dropLast, x.getLast hne, (List.dropLast_concat_getLast hne).symm⟩
    have hy : y.length = n := by rw [List.length_append, List.length_singleton] at hx; omega
    have hc : c ∈ Lt := hw c (by simp)
    have hwy : LW y := fun d hd => hw d (List.mem_append_left _ hd)
    have e : y ++ [c] ++ und (y ++ [c]) ++ z = y ++ c :: flp c :: (und y ++ z) := by
      rw [und_app]
      simp [und]
    rw [undos_succ, e]
    have hr := run1 (a := a) (b := b) (x := (y ++ c :: flp c :: (und y ++ z), p, q)) (f := [(y ++ (und y ++ z), p, q)]) (h := (.undo, [((a.length : Nat) : Int), ((n : Nat) : Int)])) (l := undos (a.length : Nat) n ++ l) (s := ⟨.undo, (a.length : Nat), (n : Nat), 0⟩) rfl rfl rfl (by rw [← hy]; exact act_undo hc)
    refine hr.trans ?_
    have h2 := ih y hy hwy l
    rw [List.append_assoc] at h2
    have e3 : a ++ [(y ++ (und y ++ z), p, q)] ++ b = a ++ (y ++ (und y ++ z), p, q) :: b := by simp
    rw [e3]
    exact h2
theorem melt_eq (i : Int) (n : Nat) : melt i n = undos i n ++ [(.out, [i])] := rfl
theorem melt_run (a b : Row) (x : Wd) (p q : Int) (hw : LW x) (l : List HS) : srun (a ++ (x ++ und x, p, q) :: b) (melt (a.length : Nat) x.length ++ l) = srun (a ++ b) l := by
  rw [melt_eq, List.append_assoc]
  have h := undo_run a b [] p q x.length x rfl hw ([(.out, [((a.length : Nat) : Int)])] ++ l)
  rw [List.append_nil] at h
  refine h.trans ?_
  refine (run1 (a := a) (b := b) (x := ([], p, q)) (f := []) (s := ⟨.out, (a.length : Nat), 0, 0⟩) rfl rfl rfl rfl).trans ?_
  rw [List.append_nil]
  rfl
theorem act_join {w : Wd} {p q p2 q2 i : Int} : act ⟨.join, i, 0, 0⟩ (w, p, q) (w, p2, q2) = some [(w, p + p2, q + q2)] := by
  unfold act aJoin
  dsimp only
  rw [if_pos (beq_self_eq_true _)]
theorem act_out0 {w : Wd} {p q i : Int} (hp : p = 0) (hq : q = 0) : act ⟨.out, i, 0, 0⟩ (w, p, q) (w, p, q) = some [] := by
  subst hp hq
  unfold act aOut
  dsimp only
  rw [if_pos]
  cases (w == ([] : Wd)) <;> rfl
/-- a pair that cancels -/
theorem join_out (a b : Row) (w : Wd) (p q p2 q2 : Int) (hp : p + p2 = 0) (hq : q + q2 = 0) (l : List HS) : srun (a ++ (w, p, q) :: (w, p2, q2) :: b) ((.join, [(a.length : Nat)]) :: (.out, [(a.length : Nat)]) :: l) = srun (a ++ b) l := by
  refine (run2 (s := ⟨.join, (a.length : Nat), 0, 0⟩) rfl rfl rfl act_join).trans ?_
  have e3 : a ++ [(w, p + p2, q + q2)] ++ b = a ++ (w, p + p2, q + q2) :: b := by simp
  rw [e3]
  refine (run1 (s := ⟨.out, (a.length : Nat), 0, 0⟩) rfl rfl rfl (act_out0 hp hq)).trans ?_
  rw [List.append_nil]
def paperR (k : Nat) (x y : Wd) (p q : Int) : Row := match k with
  | 0 => [(x, p, q), (x, -p, -q)]
  | 1 => [(x, p, q), (und x, p, q)]
  | 2 => [(x ++ x, p, q), (und x, 2 * p, 2 * q)]
  | 3 => [(x ++ y ++ und x, p, q), (x, 0, 1), (y, -p, -q), (und x, 0, 1)]
  | 4 => [(x, 0, 1), (y ++ x, p, q), (und x, 0, 1), (x ++ y, -p, -q)]
  | 5 => [(x, p, q), (x, 1 - p, -2 - q), (x, -1, 2)]
  | 6 => [(x ++ y, 0, 1), (und y, 0, 1), (und x, 0, 1)]
  | _ => [(x ++ und x ++ y, p, q), (y, -p, -q)]
def paperS (k : Nat) (n m : Nat) (a b : Int) : List HS := match k with
  | 0 => [(.join, [0]), (.out, [0])]
  | 1 => [(.turn, [1]), (.join, [0]), (.out, [0])]
  | 2 => [(.root, [0, 2]), (.turn, [1]), (.join, [0]), (.out, [0])]
  | 3 => (.opn, [0, (n : Int)]) :: (.glue, [2]) :: (melt 2 n ++ ((.join, [1]) :: (.out, [1]) :: (.glue, [0]) :: (melt 0 n ++ [])))
  | 4 => (.back, [0, (n : Int)]) :: (.glue, [1]) :: (melt 1 n ++ [(.join, [0]), (.out, [0])])
  | 5 => [(.split, [0, a, b]), (.join, [0]), (.join, [0]), (.join, [0]), (.out, [0])]
  | 6 => (.cut, [0, (n : Int)]) :: (.glue, [1]) :: (melt 1 m ++ ((.glue, [0]) :: (melt 0 n ++ [])))
  | _ => undos 0 n ++ [(.join, [0]), (.out, [0])]
theorem act_glue {w u : Wd} {i : Int} : act ⟨.glue, i, 0, 0⟩ (w, 0, 1) (u, 0, 1) = some [(w ++ u, 0, 1)] := rfl
theorem act_turn {w : Wd} {p q i : Int} : act ⟨.turn, i, 0, 0⟩ (w, p, q) (w, p, q) = some [(und w, -p, -q)] := rfl
theorem act_open {x y : Wd} {p q i : Int} (hx : 1 ≤ x.length) (hy : 1 ≤ y.length) : act ⟨.opn, i, (x.length : Nat), 0⟩ (x ++ y ++ und x, p, q) (x ++ y ++ und x, p, q) = some [(x, 0, 1), (y, p, q), (und x, 0, 1)] := by
  unfold act aOpen
  dsimp only
  have hl : (x ++ y ++ und x).length = x.length + y.length + x.length := by rw [List.length_append, List.length_append, und_length]
  rw [hl, show ((x.length + y.length + x.length : Nat) : Int) - ((x.length : Nat) : Int) = ((x.length + y.length : Nat) : Int) by omega, cutG_take, cutG_drop, cutG_mid _ _ _ (by omega) (by omega)]
  have t1 : (x ++ y ++ und x).take x.length = x := by simp
  have t2 : (x ++ y ++ und x).drop (x.length + y.length) = und x := by
    rw [← List.length_append]
    simp
  have t3 : ((x ++ y ++ und x).drop x.length).take (x.length + y.length - x.length) = y := by
    rw [List.append_assoc, List.drop_left]
    simp
  rw [t1, t2, t3, decide_eq_true (show (0 : Int) < (x.length : Nat) by omega), decide_eq_false (show ¬ (((x.length + y.length + x.length : Nat) : Int) ≤ 2 * ((x.length : Nat) : Int)) by omega), beq_self_eq_true]
  rfl
theorem act_back {x y : Wd} {p q i : Int} (hx : 1 ≤ x.length) : act ⟨.back, i, (x.length : Nat), 0⟩ (x, 0, 1) (y ++ x, p, q) = some [(x ++ y, p, q), (x, 0, 1)] := by
  unfold act aBack
  dsimp only
  have hl : (y ++ x).length = y.length + x.length := List.length_append
  rw [hl, show ((y.length + x.length : Nat) : Int) - ((x.length : Nat) : Int) = ((y.length : Nat) : Int) by omega, cutG_take, cutG_drop]
  have t1 : (y ++ x).take y.length = y := by simp
  have t2 : (y ++ x).drop y.length = x := by simp
  rw [t1, t2, beq_self_eq_true, decide_eq_false (show ¬ (((x.length : Nat) : Int) < 1) by omega), decide_eq_false (show ¬ (((y.length + x.length : Nat) : Int) < ((x.length : Nat) : Int)) by omega), beq_self_eq_true]
  rfl
theorem act_cut {x y : Wd} {i : Int} (hx : 1 ≤ x.length) (hy : 1 ≤ y.length) : act ⟨.cut, i, (x.length : Nat), 0⟩ (x ++ y, 0, 1) (x ++ y, 0, 1) = some [(x, 0, 1), (y, 0, 1)] := by
  unfold act aCut
  dsimp only
  have hl : (x ++ y).length = x.length + y.length := List.length_append
  rw [cutG_take, cutG_drop]
  have t1 : (x ++ y).take x.length = x := by simp
  have t2 : (x ++ y).drop x.length = y := by simp
  rw [t1, t2, hl, decide_eq_true (show (0 : Int) < (x.length : Nat) by omega), decide_eq_true (show ((x.length : Nat) : Int) < ((x.length + y.length : Nat) : Int) by omega)]
  rfl
theorem act_root {x : Wd} {p q i : Int} (hx : 1 ≤ x.length) : act ⟨.root, i, 2, 0⟩ (x ++ x, p, q) (x ++ x, p, q) = some [(x, p * 2, q * 2)] := by
  unfold act aRoot
  dsimp only
  have hl : (x ++ x).length = x.length + x.length := List.length_append
  rw [hl, show ((x.length + x.length : Nat) : Int) / 2 = ((x.length : Nat) : Int) by omega, cutG_take]
  have t1 : (x ++ x).take x.length = x := by simp
  have hm : (((x.length + x.length : Nat) : Int) % 2 == 0) = true := by
    rw [show ((x.length + x.length : Nat) : Int) % 2 = 0 by omega]
    rfl
  have h0 : (((x.length + x.length : Nat) : Int) == 0) = false := beq_false_of_ne (by omega)
  have hr : repW x ((2 : Int).toNat) = x ++ x := by
    show (List.replicate 2 x).flatten = x ++ x
    simp [List.replicate]
  rw [t1, hm, h0, hr, beq_self_eq_true]
  rfl
theorem paper_done {k : Nat} {x y : Wd} {p q a b : Int} (hx : LW x) (hy : LW y) (x1 : 1 ≤ x.length) (y1 : 1 ≤ y.length) : srun (paperR k x y p q) (paperS k x.length y.length a b) = some [] := by
  have uu : und (und x) = x := und_und hx
  have ul : (und x).length = x.length := und_length x
  match k with
  | 0 => exact join_out [] [] x p q (-p) (-q) (by omega) (by omega) []
  | 1 =>
    refine (run1 (a := [(x, p, q)]) (b := []) (x := (und x, p, q)) (s := ⟨.turn, 1, 0, 0⟩) rfl rfl rfl act_turn).trans ?_
    rw [uu]
    exact join_out [] [] x p q (-p) (-q) (by omega) (by omega) []
  | 2 =>
    refine (run1 (a := []) (b := [(und x, 2 * p, 2 * q)]) (x := (x ++ x, p, q)) (s := ⟨.root, 0, 2, 0⟩) rfl rfl rfl (act_root x1)).trans ?_
    refine (run1 (a := [(x, p * 2, q * 2)]) (b := []) (x := (und x, 2 * p, 2 * q)) (s := ⟨.turn, 1, 0, 0⟩) rfl rfl rfl act_turn).trans ?_
    rw [uu]
    exact join_out [] [] x (p * 2) (q * 2) (-(2 * p)) (-(2 * q)) (by omega) (by omega) []
  | 3 =>
    refine (run1 (a := []) (b := [(x, 0, 1), (y, -p, -q), (und x, 0, 1)]) (x := (x ++ y ++ und x, p, q)) (s := ⟨.opn, 0, (x.length : Nat), 0⟩) rfl rfl rfl (act_open x1 y1)).trans ?_
    refine (run2 (a := [(x, 0, 1), (y, p, q)]) (b := [(y, -p, -q), (und x, 0, 1)]) (x := (und x, 0, 1)) (y := (x, 0, 1)) (s := ⟨.glue, 2, 0, 0⟩) rfl rfl rfl act_glue).trans ?_
    have h1 := melt_run [(x, 0, 1), (y, p, q)] [(y, -p, -q), (und x, 0, 1)] (und x) 0 1 (und_lw hx) ((.join, [1]) :: (.out, [1]) :: (.glue, [0]) :: (melt 0 x.length ++ []))
    rw [uu, ul] at h1
    refine h1.trans ?_
    refine (join_out [(x, 0, 1)] [(und x, 0, 1)] y p q (-p) (-q) (by omega) (by omega) _).trans ?_
    refine (run2 (a := []) (b := []) (x := (x, 0, 1)) (y := (und x, 0, 1)) (s := ⟨.glue, 0, 0, 0⟩) rfl rfl rfl act_glue).trans ?_
    exact melt_run [] [] x 0 1 hx []
  | 4 =>
    refine (run2 (a := []) (b := [(und x, 0, 1), (x ++ y, -p, -q)]) (x := (x, 0, 1)) (y := (y ++ x, p, q)) (s := ⟨.back, 0, (x.length : Nat), 0⟩) rfl rfl rfl (act_back x1)).trans ?_
    refine (run2 (a := [(x ++ y, p, q)]) (b := [(x ++ y, -p, -q)]) (x := (x, 0, 1)) (y := (und x, 0, 1)) (s := ⟨.glue, 1, 0, 0⟩) rfl rfl rfl act_glue).trans ?_
    refine (melt_run [(x ++ y, p, q)] [(x ++ y, -p, -q)] x 0 1 hx _).trans ?_
    exact join_out [] [] (x ++ y) p q (-p) (-q) (by omega) (by omega) []
  | 5 =>
    refine (run1 (a := []) (b := [(x, 1 - p, -2 - q), (x, -1, 2)]) (x := (x, p, q)) (s := ⟨.split, 0, a, b⟩) (f := [(x, p - a, q - b), (x, a, b)]) rfl rfl rfl rfl).trans ?_
    refine (run2 (a := []) (b := [(x, 1 - p, -2 - q), (x, -1, 2)]) (x := (x, p - a, q - b)) (y := (x, a, b)) (s := ⟨.join, 0, 0, 0⟩) rfl rfl rfl act_join).trans ?_
    refine (run2 (a := []) (b := [(x, -1, 2)]) (x := (x, p - a + a, q - b + b)) (y := (x, 1 - p, -2 - q)) (s := ⟨.join, 0, 0, 0⟩) rfl rfl rfl act_join).trans ?_
    exact join_out [] [] x _ _ (-1) 2 (by omega) (by omega) []
  | 6 =>
    refine (run1 (a := []) (b := [(und y, 0, 1), (und x, 0, 1)]) (x := (x ++ y, 0, 1)) (s := ⟨.cut, 0, (x.length : Nat), 0⟩) rfl rfl rfl (act_cut x1 y1)).trans ?_
    refine (run2 (a := [(x, 0, 1)]) (b := [(und x, 0, 1)]) (x := (y, 0, 1)) (y := (und y, 0, 1)) (s := ⟨.glue, 1, 0, 0⟩) rfl rfl rfl act_glue).trans ?_
    refine (melt_run [(x, 0, 1)] [(und x, 0, 1)] y 0 1 hy _).trans ?_
    refine (run2 (a := []) (b := []) (x := (x, 0, 1)) (y := (und x, 0, 1)) (s := ⟨.glue, 0, 0, 0⟩) rfl rfl rfl act_glue).trans ?_
    exact melt_run [] [] x 0 1 hx []
  | k + 7 =>
    refine (undo_run [] [(y, -p, -q)] y p q x.length x rfl hx _).trans ?_
    exact join_out [] [] y p q (-p) (-q) (by omega) (by omega) []
/-! ### moved, in a context -/
theorem all_int : ∀ as : List Int, (as.map PyData.int).all isI = true
  | [] => rfl
  | a :: as => by
    rw [List.map_cons, List.all_cons, all_int as]
    rfl
theorem parse_h (k : Kd) (as : List Int) : parse (hD (k, as)) = if (as.length + 1 == k.sz) = true then some ⟨k, asI (as.map PyData.int)[0]?, asI (as.map PyData.int)[1]?, asI (as.map PyData.int)[2]?⟩ else none := by
  have h := parse_cons k (as.map PyData.int)
  rw [all_int, List.length_map, Bool.and_true] at h
  exact h
theorem parse_mov {h : HS} {s : PSt} (n : Nat) (hp : parse (hD h) = some s) : parse (hD (mov n h)) = some ⟨s.k, s.i + n, s.a, s.b⟩ := by
  obtain ⟨k, as⟩ := h
  rw [parse_h] at hp
  split at hp
  · next hl =>
    cases hp
    cases as with
    | nil => cases k <;> exact absurd hl (by decide)
    | cons i r =>
      have : mov n (k, i :: r) = (k, (i + n) :: r) := rfl
      rw [this, parse_h, if_pos (show (((i + (n : Int)) :: r).length + 1 == k.sz) = true from hl)]
      rfl
  · cases hp
theorem stp_mov {row row' : Row} {h : HS} (a b : Row) (e : stp row (hD h) = some row') : stp (a ++ row ++ b) (hD (mov a.length h)) = some (a ++ row' ++ b) := by
  unfold stp at e
  cases hp : parse (hD h) with
  | none =>
    rw [hp] at e
    cases e
  | some s =>
    rw [hp] at e
    dsimp only at e
    split at e
    · next hf =>
      obtain ⟨f1, f2⟩ := fits_in hf
      have hw : 1 ≤ s.k.wide := by unfold Kd.wide; split <;> omega
      obtain ⟨n, hn⟩ : ∃ n : Nat, s.i = n := ⟨s.i.toNat, by omega⟩
      rw [stpS_repl] at e
      cases hq : repl row s with
      | none =>
        rw [hq] at e
        cases e
      | some f =>
        rw [hq] at e
        have e' := Option.some.inj e
        unfold stp
        rw [parse_mov a.length hp]
        have hf2 : PSt.fits ⟨s.k, s.i + (a.length : Nat), s.a, s.b⟩ (a ++ row ++ b).length = true := by
          unfold PSt.fits
          rw [List.length_append, List.length_append, decide_eq_true (by show 0 ≤ s.i + _; omega), decide_eq_true (by show s.i + _ ≤ _ - _; show s.i + ((a.length : Nat) : Int) ≤ ((a.length + row.length + b.length : Nat) : Int) - (s.k.wide : Nat); omega)]
          rfl
        dsimp only
        rw [if_pos hf2, stpS_repl]
        have hat : ∀ m : Nat, m < row.length → atI (a ++ row ++ b) ((a.length + m : Nat) : Int) = atI row (m : Nat) := fun m hm => by
          have h1 : (a ++ row ++ b)[a.length + m]? = row[m]? := by rw [List.append_assoc, List.getElem?_append_right (by omega), Nat.add_sub_cancel_left, List.getElem?_append_left hm]
          rw [atI_nat (by rw [List.length_append, List.length_append]; omega), atI_nat hm, ← List.getElem?_eq_getElem, ← List.getElem?_eq_getElem, h1]
        have hr : repl (a ++ row ++ b) ⟨s.k, s.i + (a.length : Nat), s.a, s.b⟩ = some f := by
          rw [← hq]
          unfold repl
          dsimp only
          rw [hn]
          have e1 : ((n : Nat) : Int) + ((a.length : Nat) : Int) = ((a.length + n : Nat) : Int) := by omega
          have e2 : ((n : Nat) : Int) + ((a.length : Nat) : Int) + (s.k.wide : Nat) - 1 = ((a.length + (n + s.k.wide - 1) : Nat) : Int) := by omega
          have e3 : ((n : Nat) : Int) + (s.k.wide : Nat) - 1 = ((n + s.k.wide - 1 : Nat) : Int) := by omega
          rw [e2, e1, e3, hat n (by omega), hat (n + s.k.wide - 1) (by omega)]
          rfl
        rw [hr]
        show some (cutG (a ++ row ++ b) none (some (s.i + ((a.length : Nat) : Int))) ++ f ++ cutG (a ++ row ++ b) (some (s.i + ((a.length : Nat) : Int) + (s.k.wide : Nat))) none) = _
        rw [← e', hn]
        have e1 : ((n : Nat) : Int) + ((a.length : Nat) : Int) = ((a.length + n : Nat) : Int) := by omega
        have e2 : ((n : Nat) : Int) + ((a.length : Nat) : Int) + (s.k.wide : Nat) = ((a.length + (n + s.k.wide) : Nat) : Int) := by omega
        have e3 : ((n : Nat) : Int) + (s.k.wide : Nat) = ((n + s.k.wide : Nat) : Int) := by omega
        rw [e2, e1, e3, cutG_take, cutG_drop, cutG_take, cutG_drop]
        have t1 : (a ++ row ++ b).take (a.length + n) = a ++ row.take n := by
          rw [List.append_assoc, List.take_length_add_append, List.take_append_of_le_length (by omega)]
        have t2 : (a ++ row ++ b).drop (a.length + (n + s.k.wide)) = row.drop (n + s.k.wide) ++ b := by
          rw [List.append_assoc, List.drop_length_add_append, List.drop_append_of_le_length (by omega)]
        rw [t1, t2]
        simp
    · cases e
theorem srun_mov (a b : Row) : ∀ {l : List HS} {row row' : Row}, srun row l = some row' → srun (a ++ row ++ b) (l.map (mov a.length)) = some (a ++ row' ++ b) := by
  intro l
  induction l with
  | nil =>
    intro row row' e
    cases e
    rfl
  | cons h l ih =>
    intro row row' e
    rw [srun_cons] at e
    rw [List.map_cons, srun_cons]
    cases q : stp row (hD h) with
    | none =>
      rw [q] at e
      cases e
    | some r1 =>
      rw [q] at e
      rw [stp_mov a b q]
      exact ih e
theorem mov_zero (h : HS) : mov ((0 : Nat) : Int) h = h := by
  obtain ⟨k, as⟩ := h
  cases as with
  | nil => rfl
  | cons i r =>
    show (k, (i + ((0 : Nat) : Int)) :: r) = _
    rw [show i + ((0 : Nat) : Int) = i by omega]
/-- one paper behind the other -/
theorem srun_both {r1 r2 : Row} {l1 l2 : List HS} (h1 : srun r1 l1 = some []) (h2 : srun r2 l2 = some []) : srun (r1 ++ r2) (l1 ++ l2) = some [] := by
  have h := srun_mov [] r2 h1
  have e : l1.map (mov (([] : Row).length : Nat)) = l1 := by
    conv => rhs; rw [← List.map_id l1]
    exact List.map_congr_left fun h _ => mov_zero h
  rw [e] at h
  rw [srun_app, show srun (r1 ++ r2) l1 = some ([] ++ [] ++ r2) from h]
  exact h2
/-- a paper between a block and this undone -/
theorem srun_in {r1 : Row} {l1 : List HS} {x : Wd} {p q : Int} (h1 : srun r1 l1 = some []) : srun ([(x, p, q)] ++ r1 ++ [(x, -p, -q)]) (l1.map (mov 1) ++ [(.join, [0]), (.out, [0])]) = some [] := by
  have h := srun_mov [(x, p, q)] [(x, -p, -q)] h1
  rw [srun_app, show srun ([(x, p, q)] ++ r1 ++ [(x, -p, -q)]) (l1.map (mov 1)) = some ([(x, p, q)] ++ [] ++ [(x, -p, -q)]) from h]
  exact join_out [] [] x p q (-p) (-q) (by omega) (by omega) []
end Kn

set_option Elab.async false
set_option linter.all false
set_option maxRecDepth 100000
set_option maxHeartbeats 4000000
/-! The bag is made; a thing is drawn. -/
namespace Kn
open PySem PySem.Spec PyProof.Rows L2
local macro_rules | `(tactic| walk_at "sd") => `(tactic| first | trivial | assumption | walk_at "sz")
local macro_rules | `(tactic| walk_at "sz") => `(tactic| first | assumption | decide | omega | rfl | (simp only [List.length_append, List.length_map, List.length_cons, List.length_nil, List.length_reverse]; omega))
local macro_rules | `(tactic| walk_at "rv") => `(tactic| with_reducible first
  | exact rv_ix0 | exact rv_ix1 | exact rv_ix2 | exact rv_eqI | exact rv_neI | exact rv_eqE | exact rv_neE | exact rv_eqW | exact rv_neW | exact rv_eqS | exact rv_neS
  | exact rv_int0 | exact rv_bl0
  | exact rv_ixT0 | exact rv_ixT1
  | exact rv_ixRT (by assumption) | exact rv_ixRL (by assumption) | (apply rv_ixW; walk_at "sz"; assumption)
  | (refine rv_addW ?_; walk_at "sz")
  | (refine rv_catRT ?_; walk_at "sz") | (refine rv_catRL ?_; walk_at "sz")
  | (refine rv_intC ?_; assumption) | (apply rv_mulW; walk_at "sz"; walk_at "sz"; walk_at "sz")
  | exact rv_inW | exact rv_inSign | exact rv_isN | exact rv_notN | exact rv_notBl
  | exact rv_ixT (by with_unfolding_all rfl) | exact rv_ixL (by with_unfolding_all rfl)
  | exact rv_ixT (by assumption) | exact rv_ixL (by assumption)
  | (refine rv_catA ?_; walk_at "sz") | (refine rv_cat ?_; walk_at "sz"))
local macro_rules | `(tactic| walk_at "rs") => `(tactic| with_reducible first
  | exact rs_rT | exact rs_rL
  | (refine rs_w ?_ ?_; walk_at "sz"; (with_unfolding_all first | exact Nat.zero_le _ | exact HT.sIx_le _ _ (Nat.zero_le _) _ | assumption))
  | exact rs_tup | exact rs_list
  | (refine rs_str ?_; walk_at "sz"))
local macro_rules | `(tactic| walk_at "rc") => `(tactic| with_reducible first
  | exact rc_lenD3 | exact rc_lenRT | exact rc_lenRL | exact rc_lenT | exact rc_lenL | (refine rc_lenW ?_; walk_at "sz") | (refine rc_lenS ?_; walk_at "sz")
  | exact rc_isi (kit_int _) | exact rc_isi (kit_bool _) | exact rc_isi (kit_str _) | exact rc_isi (kit_tup _)
  | exact rc_max | exact rc_min | exact rc_int | exact rc_abs | exact rc_all | exact rc_tupL | exact rc_tupT | exact rc_list | exact rc_listT | (refine rc_listW ?_; walk_at "sz"))
local macro_rules | `(tactic| walk_at "rm") => `(tactic| first | (with_reducible apply rm_lowW; assumption; walk_at "sz") | (with_reducible apply rm_upW; assumption; walk_at "sz"))
local macro_rules | `(tactic| walk_at "ea") => `(tactic| first
  | with_reducible exact ea_nil
  | ((with_reducible apply ea_cons); walk_at "ev"; walk_at "ea"))
local macro_rules | `(tactic| walk_at "eo") => `(tactic| first
  | with_reducible exact eo_none
  | ((with_reducible apply eo_some); walk_at "ev"))
local macro_rules | `(tactic| walk_at "et") => `(tactic| first
  | ((with_reducible apply et_test); walk_at "ev")
  | ((with_reducible apply et_B); walk_at "ev")
  | ((with_reducible apply et_not); walk_at "et")
  | ((with_reducible apply et_and); walk_at "et"; intro _; walk_at "et")
  | ((with_reducible apply et_or); walk_at "et"; intro _; walk_at "et"))
local macro_rules | `(tactic| walk_at "ev") => `(tactic| first
  | with_reducible exact ev_int | with_reducible exact ev_str | with_reducible exact ev_bl | with_reducible exact ev_non | with_reducible exact ev_val
  | ((with_reducible apply ev_var); exact rfl)
  | ((with_reducible apply ev_op); walk_at "ev"; walk_at "ev"; walk_at "rv")
  | ((with_reducible apply ev_un); walk_at "ev"; exact ru_neg)
  | ((with_reducible apply ev_and); walk_at "ev"; intro _; walk_at "ev")
  | ((with_reducible apply ev_or); walk_at "ev"; intro _; walk_at "ev")
  | ((with_reducible apply ev_not); walk_at "ev")
  | ((with_reducible apply ev_sl); walk_at "ev"; walk_at "eo"; walk_at "eo"; walk_at "rs")
  | ((with_reducible apply ev_chain); walk_at "ev"; walk_at "ev"; walk_at "rv"; (intro _; walk_at "ev"); (intro _; walk_at "rv"))
  | walk_at "ec"
  | ((with_reducible apply ev_if); walk_at "et"; (intro _; walk_at "ev"); (intro _; walk_at "ev"))
  | ((with_reducible apply ev_m0); walk_at "ev"; walk_at "rm")
  | ((with_reducible apply ev_cb); walk_at "ea"; walk_at "rc")
  | ((with_reducible apply ev_tD); walk_at "ea")
  | with_reducible exact ev_rT0 | with_reducible exact ev_rL0
  | ((with_reducible apply ev_rT1); walk_at "ea") | ((with_reducible apply ev_rT2); walk_at "ea") | ((with_reducible apply ev_rT3); walk_at "ea")
  | ((with_reducible apply ev_rL1); walk_at "ea") | ((with_reducible apply ev_rL2); walk_at "ea") | ((with_reducible apply ev_rL3); walk_at "ea") | ((with_reducible apply ev_rL4); walk_at "ea")
  | ((with_reducible apply ev_revW); walk_at "ev"; walk_at "sz")
  | ((with_reducible apply ev_revL); walk_at "ev")
  | ((with_reducible apply ev_revT); walk_at "ev"))
local macro_rules | `(tactic| walk_at "ret") => `(tactic| (apply go_retE; assumption; exact rfl; walk_at "ev"))
local macro_rules | `(tactic| walk_at "if") => `(tactic| (apply go_if; walk_at "et"))
local macro_rules | `(tactic| walk_at "set") => `(tactic| (apply go_set; walk_at "ev"))
local macro_rules | `(tactic| walk_at "eg") => `(tactic| first | exact eg_name (by decide) | exact eg_tD (by decide) (by decide) (by decide))
/-- the promise of a def that hands back a new bag -/
def spNew (K : PySem.W.Frag) {α : Type} (ar : α → List Da) (pre : α → Prop) : Sp := fun vs H Q _ =>
  ∃ (a : α) (F : List Addr), FOk F none H ∧ RpXs K (hide (hid F none) H) vs (ar a) ∧ pre a ∧ ∀ (b : Addr) (H2 : Hp) (s d : Int), Stp none H H2 → H b = none → H2 b = some (bagO s d 0) → 0 ≤ s → s < 2147483587 → 0 ≤ d → Q (.ref b) H2
/-- what the end of such a def owes -/
def NewEnd (H0 : Hp) (D : Ends) : Prop := ∀ (b : Addr) (H2 : Hp) (s d : Int), Stp none H0 H2 → H0 b = none → H2 b = some (bagO s d 0) → 0 ≤ s → s < 2147483587 → 0 ≤ d → D.rt (.ref b) H2
theorem on_none {H : Hp} : On none H := fun _ h => nomatch h
section
variable {P : Program} {w : World} {K : PySem.W.Frag} {mg : Str → Option Value} {base : Heap}
theorem calN {x : Str} {st : Stmt} {N ps : List Str} {k : Nat} {α : Type} {ar : α → List Da} {pre : α → Prop} (F : ∃ fd, FunD K x x (defArgs st) (defBody st) (defScope st) [] [] (He.ga K x) fd) (hm : mg x = some (.ref (He.ga K x))) (S : FnScope N ps (defScope st))
    (bd : ∀ (kV doc pm : Value) (an : Option Addr) (cdv ct : Value) (us : List Value), us.length = ps.length → bindArgs (PySem.W.fnOf x x (defArgs st) (defBody st) (defScope st) .none kV doc pm an cdv ct) ⟨us, []⟩ = pure (ps.zip us)) (hlen : ∀ (a : α) (r : Res), (ar a).length = ps.length)
    (hbody : ∀ (f : Addr) (cdv : Value) (A : Around) (outer : List Env) (s : Shared) (H : Hp) (E : XK), Room k (A.deeper (envOfC x (defScope st) s.heap.objs.size f cdv)) →
      ∃ t, PSs (cxOf CX0 P w K mg base N x (defScope st) f cdv A outer s H E).nox (defBody st) t ∧ ∀ (a : α) (F0 : List Addr) (H0 : Hp) (D : Ends), pre a → NewEnd H0 D → Go ⟨K, F0, none, H0, fun _ => False⟩ none (startD N.length (ar a)) t D) :
    Cal P w K mg base (k + 1) x ps (spNew K ar pre) := by
  obtain ⟨fd, F⟩ := F
  refine ⟨_, fd, F.ok S (fun vs H Q E h => ?_) (fun cdv A outer s H vs Q E hr h => ?_), hm, F.kp, FunD.bindsN F bd⟩
  · obtain ⟨a, F0, _, hx, _⟩ := h
    rw [hx.length, hlen a none]
  · obtain ⟨a, F0, hf, hx, hp, hq⟩ := h
    obtain ⟨t, hd, go⟩ := hbody _ cdv A outer s H E hr
    exact ⟨t, hd.nox, go a F0 H { nx := fun _ H' => Q .non H', rt := Q } hp hq _ H ⟨Stp.refl on_none, hf, hf, fun _ z => (nomatch z), start_env hx⟩⟩
end
section
variable {K K' : PySem.W.Frag} {r : Res} {ds : Sl} {P : Da → Prop} {ta tb tc te : TE} {xs : List V} {i : Int}
theorem rc_lenSc (hK : K' = K := by rfl) : RC K r (fun xs H Q => ∃ p ys, xs = [.ref p] ∧ (SqL K' H p ys ∨ SqT K' H p ys) ∧ Q (.int ys.length) H) [.s xs] (Is (.d (.int xs.length))) := fun F H vs o f hv Q q => by
  subst hK
  obtain ⟨v, rfl, a, rfl, h⟩ := x1 hv
  exact ⟨a, xs, rfl, .inl (Same.sql hide_same h), q _ H _ rfl (Stp.refl o) (Rp.int _)⟩
theorem rv_ixSc {ns : List Int} {z : Int} (h : atI ns i = some z) (hK : K' = K := by rfl) : RV K r (rIxL K') (.s (ns.map V.int)) (.d (.int i)) (Is (.d (.int z))) := fun F H v w o f hv hw Q q => by
  subst hK
  cases hw
  obtain ⟨a, rfl, hs⟩ := hv
  have h2 : atI (ns.map V.int) i = some (.int z) := by
    unfold atI at h ⊢
    rw [List.length_map]
    cases q : ixN ns.length i with
    | none =>
      rw [q] at h
      cases h
    | some k =>
      rw [q] at h
      show (ns.map V.int)[k]? = _
      rw [List.getElem?_map, show ns[k]? = some z from h]
      rfl
  exact ⟨_, _, i, .int z, rfl, rfl, Same.sql hide_same hs, h2, q _ H _ rfl (Stp.refl o) (Rp.int _)⟩
theorem cutV_ints (ns : List Int) (lo hi : Option Int) : cutV (ns.map V.int) lo hi = (cutG ns lo hi).map V.int := by
  unfold cutV cutG
  rw [List.length_map, List.map_take, List.map_drop]
theorem rs_Sc {ns : List Int} {lo hi : Option Int} (hK : K' = K := by rfl) : RS K r (rSlL K') (.s (ns.map V.int)) lo hi (Is (.d (.list ((cutG ns lo hi).map PyData.int)))) := fun F H v o f hv Q q => by
  subst hK
  obtain ⟨a, rfl, hs⟩ := hv
  refine ⟨_, _, rfl, Same.sql hide_same hs, fun p np => ?_⟩
  rw [cutV_ints]
  obtain ⟨s, z⟩ := put_lst o f np (K := K') rpAll_ints
  exact q _ _ _ rfl s z
end
section
variable {P : Program} {w w' : World} {K K' : PySem.W.Frag} {mg : Str → Option Value} {base : Heap} {r : Res} {ds : Sl} {ta : TA}
theorem go_retN {t0 : TA} {u : TS} {D : Ends} {F0 : List Addr} {H0 : Hp} (R : NewEnd H0 D) (ha : EvA K none t0 ds (fun ws => ∃ s d : Int, ws = [.d (.int s), .d (.int d), .d (.int 0)] ∧ 0 ≤ s ∧ s < 2147483587 ∧ 0 ≤ d)) : Go ⟨K, F0, none, H0, fun _ => False⟩ none ds (tSeq (tRet (tLst t0)) u) D := fun σ H x => by
  have key : t0 σ H (fun vs H1 => vs.length ≤ sizeLine ∧ ∀ p, H1 p = none → D.rt (.ref p) (upd H1 p (.lst vs))) := by
    refine ha _ σ H x.stp.on x.fok x.env _ fun vs H1 ws ⟨s, d, ew, h1, h2, h3⟩ s1 rx => ?_
    subst ew
    obtain ⟨v1, v2, v3, rfl, r1, r2, r3⟩ := x3 rx
    cases r1; cases r2; cases r3
    refine ⟨by show 3 ≤ sizeLine; decide, fun p np => ?_⟩
    have st := x.stp.trans s1
    exact R p _ s d (st.trans (Stp.new st.on np)) (st.dom p np) upd_same h1 h2 h3
  exact key
/-- some int -/
def AnyI (w : Da) : Prop := ∃ i : Int, w = .d (.int i)
def sp_law_bag (K : PySem.W.Frag) : Sp := spNew K (fun a : List Int × Nat => [.s (a.1.map V.int), .d (.int (a.2 : Nat))]) (fun a => a.1.length ≤ 1000 ∧ a.2 ≤ 1000)
-- slots: 0=_law_script 1=_law_spot 2=_law_cell 3=_law_part_here
theorem sc_law_bag : FnScope ["_law_script", "_law_spot", "_law_cell", "_law_part_here"] ["_law_script", "_law_spot"] (defScope s_law_bag) := C8.fnScope_by (by decide +kernel)
theorem c_law_bag (T : Tx K mg w) : Cal P w K mg base 1 "_law_bag" ["_law_script", "_law_spot"] (sp_law_bag K) := by
  refine calN T.e_law_bag T.g_law_bag sc_law_bag (fun _ _ _ _ _ _ us hl => match us, hl with | [_, _], _ => rfl) (fun _ _ => rfl) fun f cdv A outer s H E hr => ?_
  refine ⟨_, (pss_cons (ps_set (i := 2) sc_law_bag.nd rfl (Or.inl rfl) (pe_ifExp (pt_cmpR op_lt (pv 1) (pe_callB call_len_seq (by rfl) T.f_len PySem.boot_len (pa_cons (pv 0) pa_nil)) (nomark _)) (pe_ix ix_list (pv 0) (pv 1) (fun _ _ => rfl)) (pe_op op_add (pe_op op_mul pe_int (pv 1)) pe_int)))
    (pss_cons (ps_for PassesOwn.never rfl (pi_list (pe_ifExp (pt_cmpR op_ge (pv 1) (pe_callB call_len_seq (by rfl) T.f_len PySem.boot_len (pa_cons (pv 0) pa_nil)) (nomark _)) (pe_slice sl_list (pv 0) po_none (po_some pe_int)) (pe_lst pa_nil))) (pg_name (i := 3) sc_law_bag.nd rfl (Or.inl rfl)) (pss_cons (ps_set (i := 2) sc_law_bag.nd rfl (Or.inl rfl) (pe_op op_mod (pe_callTy call_int1 (by rfl) T.f_int (by decide +kernel) (pa_cons (pe_op op_add (pe_op op_mul (pv 2) pe_int) (pv 3)) pa_nil)) pe_int))
    pss_nil))
    (pss_cons (ps_ret (pe_lst (pa_cons (pe_op op_mod (pe_callTy call_int1 (by rfl) T.f_int (by decide +kernel) (pa_cons (pv 2) pa_nil)) pe_int) (pa_cons (pe_ifExp (PW.pt (pw_or (pt_cmpR op_lt (pv 2) pe_int (nomark _)) (pw_or1 (pt_cmpR op_ge (pv 2) (pe_op op_pow pe_int pe_int) (nomark _))))) (pe_callB call_abs (by rfl) T.f_abs (by decide +kernel) (pa_cons (pv 2) pa_nil)) pe_int) (pa_cons pe_int pa_nil)))))
    pss_nil))), ?_⟩
  intro a F0 H0 D hp R
  dsimp only [nox_K]
  obtain ⟨ns, n⟩ := a
  obtain ⟨hl, hn⟩ := hp
  dsimp only at hl hn ⊢
  have hlen : (ns.map V.int).length = ns.length := List.length_map _
  have finish : ∀ (u : TS) (c : Int) (ds' : Sl), ds'[2]? = some (some (.d (.int c))) → Go ⟨K, F0, none, H0, fun _ => False⟩ none ds' (tSeq (tRet (tLst (tCons (tOp (rI (fun x j => 0 < j) fun i j => V.int (i % j)) (tCB (fun xs H Q => (∃ i, xs = [V.int i] ∧ Q (V.int i) H) ∨ ∃ k, xs = [V.bl k] ∧ Q (V.int (if k = true then 1 else 0)) H) (tCons (tVar 2) tNil)) (tC (V.int 2147483587))) (tCons (tIf (tOr (tTest (tOp (rI0 fun i j => V.bl (decide (i < j))) (tVar 2) (tC (V.int 0)))) (tTest (tOp (rI0 fun i j => V.bl (decide (j ≤ i))) (tVar 2) (tOp (rI CPow fun i j => V.int (i ^ j.toNat)) (tC (V.int 10)) (tC (V.int 18)))))) (tCB (fun xs H Q => ∃ i, xs = [V.int i] ∧ Q (V.int (if i < 0 then -i else i)) H) (tCons (tVar 2) tNil)) (tC (V.int 0))) (tCons (tC (V.int 0)) tNil))))) u) D := fun u c ds' e => by
    have cp : CPow 10 18 := ⟨by decide, by decide, by decide⟩
    have ha : EvA K none (tCons (tOp (rI (fun x j => 0 < j) fun i j => V.int (i % j)) (tCB (fun xs H Q => (∃ i, xs = [V.int i] ∧ Q (V.int i) H) ∨ ∃ k, xs = [V.bl k] ∧ Q (V.int (if k = true then 1 else 0)) H) (tCons (tVar 2) tNil)) (tC (V.int 2147483587))) (tCons (tIf (tOr (tTest (tOp (rI0 fun i j => V.bl (decide (i < j))) (tVar 2) (tC (V.int 0)))) (tTest (tOp (rI0 fun i j => V.bl (decide (j ≤ i))) (tVar 2) (tOp (rI CPow fun i j => V.int (i ^ j.toNat)) (tC (V.int 10)) (tC (V.int 18)))))) (tCB (fun xs H Q => ∃ i, xs = [V.int i] ∧ Q (V.int (if i < 0 then -i else i)) H) (tCons (tVar 2) tNil)) (tC (V.int 0))) (tCons (tC (V.int 0)) tNil))) ds' (fun ws => ∃ s d : Int, ws = [.d (.int s), .d (.int d), .d (.int 0)] ∧ 0 ≤ s ∧ s < 2147483587 ∧ 0 ≤ d) := by
      refine ean_cons (ev_op (ev_cb (ea_one (ev_var e)) rc_int) ev_int (rv_intC (by decide))) fun x ex => ⟨fun ys => ∃ d : Int, ys = [.d (.int d), .d (.int 0)] ∧ 0 ≤ d, ean_cons (Pa := fun y => ∃ d : Int, y = .d (.int d) ∧ 0 ≤ d) ?_ (fun y ey => ⟨_, ea_one ev_int, fun ys eys => ?_⟩), fun ys eys => ?_⟩
      · refine evn_if (et_or (et_test (ev_op (ev_var e) ev_int rv_bl0)) fun _ => et_test (ev_op (ev_var e) (ev_op ev_int ev_int (rv_intC cp)) rv_bl0)) (fun _ => ?_) fun _ => ev_int.imp fun w ew => ⟨0, ew, by decide⟩
        refine (ev_cb (ea_one (ev_var e)) rc_abs).imp fun w ew => ⟨_, ew, ?_⟩
        split <;> omega
      · obtain ⟨d, rfl, hd⟩ := ey
        subst eys
        exact ⟨d, rfl, hd⟩
      · obtain ⟨d, rfl, hd⟩ := eys
        subst ex
        exact ⟨_, d, rfl, Int.emod_nonneg _ (by decide), Int.emod_lt_of_pos _ (by decide), hd⟩
    exact go_retN R ha
  refine go_asg (P := AnyI) ?_ fun w ⟨c, ew⟩ => ?_
  · by_cases h : n < ns.length
    · have hx := atI_nat h
      refine evn_if (Pb := IsB true) ?_ (fun _ => ?_) fun z => nomatch z
      · refine et_is (et_test (ev_op (ev_var rfl) (ev_cb (ea_one (ev_var rfl)) rc_lenSc) rv_bl0)) ?_
        rw [hlen]
        exact decide_eq_true (by omega)
      · exact (ev_op (ev_var rfl) (ev_var rfl) (rv_ixSc hx)).imp fun w ew => ⟨_, ew⟩
    · refine evn_if (Pb := IsB false) ?_ (fun z => nomatch z) fun _ => ?_
      · refine et_is (et_test (ev_op (ev_var rfl) (ev_cb (ea_one (ev_var rfl)) rc_lenSc) rv_bl0)) ?_
        rw [hlen]
        exact decide_eq_false (by omega)
      · exact (ev_op (ev_op ev_int (ev_var rfl) (rv_intC (.inl ⟨by decide, by decide⟩))) ev_int rv_int0).imp fun w ew => ⟨_, ew⟩
  subst ew
  obtain ⟨ks, hks⟩ : ∃ ks : List Int, Ev K none (tIf (tTest (tOp (rI0 fun i j => V.bl (decide (j ≤ i))) (tVar 1) (tCB (fun xs H Q => ∃ p ys, xs = [.ref p] ∧ (SqL K H p ys ∨ SqT K H p ys) ∧ Q (.int ys.length) H) (tCons (tVar 0) tNil)))) (L2.tSl (rSlL K) (tVar 0) tNoPart (tPart (tC (.int 3)))) (tLst tNil)) ((startD 4 [.s (ns.map V.int), .d (.int (n : Nat))]).set 2 (some (.d (.int c)))) (Is (.d (.list (ks.map PyData.int)))) := by
    by_cases h : n < ns.length
    · refine ⟨[], evn_if (Pb := IsB false) ?_ (fun z => nomatch z) fun _ => ev_lst (xs := []) ea_nil (by simp)⟩
      refine et_is (et_test (ev_op (ev_var rfl) (ev_cb (ea_one (ev_var rfl)) rc_lenSc) rv_bl0)) ?_
      rw [hlen]
      exact decide_eq_false (by omega)
    · refine ⟨cutG ns none (some 3), evn_if (Pb := IsB true) ?_ (fun _ => ev_sl (ev_var rfl) eo_none (eo_some ev_int) rs_Sc) fun z => nomatch z⟩
      refine et_is (et_test (ev_op (ev_var rfl) (ev_cb (ea_one (ev_var rfl)) rc_lenSc) rv_bl0)) ?_
      rw [hlen]
      exact decide_eq_true (by omega)
  refine go_for (vs := [3]) (xs := ks.map PyData.int) (B := ⟨K, F0, none, H0, fun _ => False⟩) ⟨fun v H2 w pw => False.elim pw⟩ (fun i o ds => o = none ∧ ∃ (c : Int) (sl : Option Da), ds = [some (.s (ns.map V.int)), some (.d (.int (n : Nat))), some (.d (.int c)), sl]) (ei_list hks) ⟨rfl, c, none, rfl⟩ ?_ ?_
  · rintro H1 i d o' ds' hd _ ⟨rfl, c', sl, rfl⟩
    have hd' : ∃ k : Int, d = .int k := by
      rw [List.getElem?_map] at hd
      cases q : ks[i]? with
      | none =>
        rw [q] at hd
        cases hd
      | some k =>
        rw [q] at hd
        cases hd
        exact ⟨k, rfl⟩
    obtain ⟨k, rfl⟩ := hd'
    refine ⟨_, eg_name (by decide), fun D' R' nx => ?_⟩
    apply go_set (ev_op (ev_cb (ea_one (ev_op (ev_op (ev_var rfl) ev_int (rv_intC (.inr ⟨by decide, by decide⟩))) (ev_var rfl) rv_int0)) rc_int) ev_int (rv_intC (by decide)))
    exact go_next (nx none _ rfl ⟨rfl, _, _, rfl⟩)
  · rintro o' ds' _ ⟨rfl, c', sl, rfl⟩
    exact finish _ c' _ rfl
def sp_law_of (K : PySem.W.Frag) : Sp := spB K (fun xs : List PyData => [.d (.list xs)]) (fun xs => 0 < xs.length ∧ xs.length < 1000) fun xs w => ∃ x ∈ xs, w = .d x
-- slots: 0=_law_bag_here 1=_law_things
theorem sc_law_of : FnScope ["_law_bag_here", "_law_things"] ["_law_bag_here", "_law_things"] (defScope s_law_of) := C8.fnScope_by (by decide +kernel)
theorem c_law_of (T : Tx K mg w) : Cal P w K mg base 2 "_law_of" ["_law_bag_here", "_law_things"] (sp_law_of K) := by
  refine calG T.e_law_of T.g_law_of sc_law_of (fun _ _ _ _ _ _ us hl => match us, hl with | [_, _], _ => rfl) (fun _ _ => rfl) fun f cdv A outer s H E hr => ?_
  refine ⟨_, (pss_cons (ps_ret (pe_ix ix_list (pv 1) (pe_c (c_law_take T) hr (by decide) (by rfl) (pa_cons (pv 0) (pa_cons (pe_callB call_len_seq (by rfl) T.f_len PySem.boot_len (pa_cons (pv 1) pa_nil)) pa_nil))) (fun _ _ => rfl)))
    pss_nil), ?_⟩
  intro a r F0 H0 D hp R
  dsimp only [nox_K]
  obtain ⟨hr1, h0, h1⟩ := hp
  obtain ⟨b, rfl⟩ := Option.isSome_iff_exists.mp hr1
  refine go_ret R (P := fun w => ∃ x ∈ a, w = .d x) (evn_op (ev_var rfl) fun x ex => ⟨Dr a.length, ?_, fun y ey => ?_⟩) fun w e => e
  · exact ec_law_take (ea_cons (ev_var rfl) (ea_one (ev_cb (ea_one (ev_var rfl)) rc_lenL))) h0 h1
  · obtain ⟨k, rfl, hk⟩ := ey
    subst ex
    exact fun F H v w o f hv hw Q q => rv_ixL (atI_nat hk) rfl F H v w o f hv hw Q fun u H2 z ez s rx => q u H2 z ⟨_, List.getElem_mem _, ez⟩ s rx
theorem ec_law_of {xs : List PyData} {b : Addr} (h : EvA K (some b) ta ds (IsA [.v (.ref b), .d (.list xs)])) (h1 : 0 < xs.length) (h2 : xs.length < 1000) : Ev K (some b) (tCall (sp_law_of K) [] E0 ta) ds (fun w => ∃ x ∈ xs, w = .d x) := ev_callB xs h rfl rfl ⟨h1, h2⟩
end
end Kn

set_option Elab.async false
set_option linter.all false
set_option maxRecDepth 100000
set_option maxHeartbeats 4000000
/-! Blocks, undoings, words are drawn. -/
namespace Kn
open PySem PySem.Spec PyProof.Rows L2
local macro_rules | `(tactic| walk_at "sd") => `(tactic| first | trivial | assumption | walk_at "sz")
local macro_rules | `(tactic| walk_at "sz") => `(tactic| first | assumption | decide | omega | rfl | (simp only [List.length_append, List.length_map, List.length_cons, List.length_nil, List.length_reverse]; omega))
local macro_rules | `(tactic| walk_at "rv") => `(tactic| with_reducible first
  | exact rv_ix0 | exact rv_ix1 | exact rv_ix2 | exact rv_eqI | exact rv_neI | exact rv_eqE | exact rv_neE | exact rv_eqW | exact rv_neW | exact rv_eqS | exact rv_neS
  | exact rv_int0 | exact rv_bl0
  | exact rv_ixT0 | exact rv_ixT1
  | exact rv_ixRT (by assumption) | exact rv_ixRL (by assumption) | (apply rv_ixW; walk_at "sz"; assumption)
  | (refine rv_addW ?_; walk_at "sz")
  | (refine rv_catRT ?_; walk_at "sz") | (refine rv_catRL ?_; walk_at "sz")
  | (refine rv_intC ?_; assumption) | (apply rv_mulW; walk_at "sz"; walk_at "sz"; walk_at "sz")
  | exact rv_inW | exact rv_inSign | exact rv_isN | exact rv_notN | exact rv_notBl
  | exact rv_ixT (by with_unfolding_all rfl) | exact rv_ixL (by with_unfolding_all rfl)
  | exact rv_ixT (by assumption) | exact rv_ixL (by assumption)
  | (refine rv_catA ?_; walk_at "sz") | (refine rv_cat ?_; walk_at "sz"))
local macro_rules | `(tactic| walk_at "rs") => `(tactic| with_reducible first
  | exact rs_rT | exact rs_rL
  | (refine rs_w ?_ ?_; walk_at "sz"; (with_unfolding_all first | exact Nat.zero_le _ | exact HT.sIx_le _ _ (Nat.zero_le _) _ | assumption))
  | exact rs_tup | exact rs_list
  | (refine rs_str ?_; walk_at "sz"))
local macro_rules | `(tactic| walk_at "rc") => `(tactic| with_reducible first
  | exact rc_lenD3 | exact rc_lenRT | exact rc_lenRL | exact rc_lenT | exact rc_lenL | (refine rc_lenW ?_; walk_at "sz") | (refine rc_lenS ?_; walk_at "sz")
  | exact rc_isi (kit_int _) | exact rc_isi (kit_bool _) | exact rc_isi (kit_str _) | exact rc_isi (kit_tup _)
  | exact rc_max | exact rc_min | exact rc_int | exact rc_abs | exact rc_all | exact rc_tupL | exact rc_tupT | exact rc_list | exact rc_listT | (refine rc_listW ?_; walk_at "sz"))
local macro_rules | `(tactic| walk_at "rm") => `(tactic| first | (with_reducible apply rm_lowW; assumption; walk_at "sz") | (with_reducible apply rm_upW; assumption; walk_at "sz"))
local macro_rules | `(tactic| walk_at "ea") => `(tactic| first
  | with_reducible exact ea_nil
  | ((with_reducible apply ea_cons); walk_at "ev"; walk_at "ea"))
local macro_rules | `(tactic| walk_at "eo") => `(tactic| first
  | with_reducible exact eo_none
  | ((with_reducible apply eo_some); walk_at "ev"))
local macro_rules | `(tactic| walk_at "et") => `(tactic| first
  | ((with_reducible apply et_test); walk_at "ev")
  | ((with_reducible apply et_B); walk_at "ev")
  | ((with_reducible apply et_not); walk_at "et")
  | ((with_reducible apply et_and); walk_at "et"; intro _; walk_at "et")
  | ((with_reducible apply et_or); walk_at "et"; intro _; walk_at "et"))
local macro_rules | `(tactic| walk_at "ev") => `(tactic| first
  | with_reducible exact ev_int | with_reducible exact ev_str | with_reducible exact ev_bl | with_reducible exact ev_non | with_reducible exact ev_val
  | ((with_reducible apply ev_var); exact rfl)
  | ((with_reducible apply ev_op); walk_at "ev"; walk_at "ev"; walk_at "rv")
  | ((with_reducible apply ev_un); walk_at "ev"; exact ru_neg)
  | ((with_reducible apply ev_and); walk_at "ev"; intro _; walk_at "ev")
  | ((with_reducible apply ev_or); walk_at "ev"; intro _; walk_at "ev")
  | ((with_reducible apply ev_not); walk_at "ev")
  | ((with_reducible apply ev_sl); walk_at "ev"; walk_at "eo"; walk_at "eo"; walk_at "rs")
  | ((with_reducible apply ev_chain); walk_at "ev"; walk_at "ev"; walk_at "rv"; (intro _; walk_at "ev"); (intro _; walk_at "rv"))
  | walk_at "ec"
  | ((with_reducible apply ev_if); walk_at "et"; (intro _; walk_at "ev"); (intro _; walk_at "ev"))
  | ((with_reducible apply ev_m0); walk_at "ev"; walk_at "rm")
  | ((with_reducible apply ev_cb); walk_at "ea"; walk_at "rc")
  | ((with_reducible apply ev_tD); walk_at "ea")
  | with_reducible exact ev_rT0 | with_reducible exact ev_rL0
  | ((with_reducible apply ev_rT1); walk_at "ea") | ((with_reducible apply ev_rT2); walk_at "ea") | ((with_reducible apply ev_rT3); walk_at "ea")
  | ((with_reducible apply ev_rL1); walk_at "ea") | ((with_reducible apply ev_rL2); walk_at "ea") | ((with_reducible apply ev_rL3); walk_at "ea") | ((with_reducible apply ev_rL4); walk_at "ea")
  | ((with_reducible apply ev_revW); walk_at "ev"; walk_at "sz")
  | ((with_reducible apply ev_revL); walk_at "ev")
  | ((with_reducible apply ev_revT); walk_at "ev"))
local macro_rules | `(tactic| walk_at "ret") => `(tactic| (apply go_retE; assumption; exact rfl; walk_at "ev"))
local macro_rules | `(tactic| walk_at "if") => `(tactic| (apply go_if; walk_at "et"))
local macro_rules | `(tactic| walk_at "set") => `(tactic| (apply go_set; walk_at "ev"))
local macro_rules | `(tactic| walk_at "eg") => `(tactic| first | exact eg_name (by decide) | exact eg_tD (by decide) (by decide) (by decide))
section
variable {K K' : PySem.W.Frag} {r : Res} {ds : Sl} {P : Da → Prop} {ta tb tc te te0 : TE} {tt : TT}
theorem ean1 {Pa : Da → Prop} (ha : Ev K r ta ds Pa) : EvA K r (tCons ta tNil) ds (fun ws => ∃ x, Pa x ∧ ws = [x]) := ean_cons ha fun x px => ⟨_, ea_nil, fun ys e => ⟨x, px, by rw [e]⟩⟩
theorem ean2 {Pa Pb : Da → Prop} (ha : Ev K r ta ds Pa) (hb : Ev K r tb ds Pb) : EvA K r (tCons ta (tCons tb tNil)) ds (fun ws => ∃ x y, Pa x ∧ Pb y ∧ ws = [x, y]) := ean_cons ha fun x px => ⟨_, ean1 hb, fun ys ⟨y, py, e⟩ => ⟨x, y, px, py, by rw [e]⟩⟩
theorem ean3 {Pa Pb Pc : Da → Prop} (ha : Ev K r ta ds Pa) (hb : Ev K r tb ds Pb) (hc : Ev K r tc ds Pc) : EvA K r (tCons ta (tCons tb (tCons tc tNil))) ds (fun ws => ∃ x y z, Pa x ∧ Pb y ∧ Pc z ∧ ws = [x, y, z]) := ean_cons ha fun x px => ⟨_, ean2 hb hc, fun ys ⟨y, z, py, pz, e⟩ => ⟨x, y, z, px, py, pz, by rw [e]⟩⟩
/-- an int between two -/
def Bt (a b : Int) (w : Da) : Prop := ∃ i : Int, w = .d (.int i) ∧ a ≤ i ∧ i ≤ b
theorem Dr.bt {n : Nat} {w : Da} (h : Dr n w) : Bt 0 (n - 1 : Int) w := by
  obtain ⟨k, e, hk⟩ := h
  exact ⟨k, e, by omega, by omega⟩
theorem ev_ival {i : Int} (h : Ev K r te ds (Is (.d (.int i)))) : Ev K r te ds (Bt i i) := h.imp fun w e => ⟨i, e, Int.le_refl _, Int.le_refl _⟩
theorem evn_ii {g : Int → Int → Int} {Pa Pb : Da → Prop} (ha : Ev K r ta ds Pa) (hb : Ev K r tb ds Pb) (h : ∀ x y, Pa x → Pb y → ∃ i j : Int, x = .d (.int i) ∧ y = .d (.int j) ∧ P (.d (.int (g i j)))) : Ev K r (tOp (rI0 fun i j => .int (g i j)) ta tb) ds P :=
  evn_op ha fun x px => ⟨Pb, hb, fun y py => by
    obtain ⟨i, j, rfl, rfl, hp⟩ := h x y px py
    exact fun F H v w o f hv hw Q q => rv_int0 F H v w o f hv hw Q fun u H2 z ez s rx => q u H2 z (by rw [ez]; exact hp) s rx⟩
theorem ev_badd {a b c d : Int} (ha : Ev K r ta ds (Bt a b)) (hb : Ev K r tb ds (Bt c d)) : Ev K r (tOp (rI0 fun i j => .int (i + j)) ta tb) ds (Bt (a + c) (b + d)) :=
  evn_ii ha hb fun x y ⟨i, e1, h1, h2⟩ ⟨j, e2, h3, h4⟩ => ⟨i, j, e1, e2, i + j, rfl, by omega, by omega⟩
theorem ev_bsub {a b c d : Int} (ha : Ev K r ta ds (Bt a b)) (hb : Ev K r tb ds (Bt c d)) : Ev K r (tOp (rI0 fun i j => .int (i - j)) ta tb) ds (Bt (a - d) (b - c)) :=
  evn_ii ha hb fun x y ⟨i, e1, h1, h2⟩ ⟨j, e2, h3, h4⟩ => ⟨i, j, e1, e2, i - j, rfl, by omega, by omega⟩
theorem ev_bneg {a b : Int} (ha : Ev K r ta ds (Bt a b)) : Ev K r (tUn (rU fun i => .int (-i)) ta) ds (Bt (-b) (-a)) := evn_un ha fun x ⟨i, e, h1, h2⟩ => by
  subst e
  exact fun F H v o f hv Q q => ru_neg F H v o f hv Q fun u H2 z ez s rx => q u H2 z ⟨-i, ez, by omega, by omega⟩ s rx
theorem Bt.mono {a b c d : Int} {w : Da} (h : Bt a b w) (h1 : c ≤ a) (h2 : b ≤ d) : Bt c d w := by
  obtain ⟨i, e, h3, h4⟩ := h
  exact ⟨i, e, by omega, by omega⟩
def AnyB (w : Da) : Prop := ∃ b : Bool, w = .d (.bool b)
theorem ev_deq {n : Nat} {j : Int} (ha : Ev K r ta ds (Dr n)) : Ev K r (tOp rEq ta (tC (.int j))) ds AnyB := evn_op ha fun x ⟨k, ex, hk⟩ => ⟨_, ev_int, fun y ey => by
  subst ex; subst ey
  exact fun F H v w o f hv hw Q q => rv_eqI F H v w o f hv hw Q fun u H2 z ez s rx => q u H2 z ⟨_, ez⟩ s rx⟩
theorem et_any (h : Ev K r te ds AnyB) : EvT K r (tTest te) ds (fun _ => True) := etn_test h fun w ⟨b, e⟩ => ⟨b, e, trivial⟩
/-- a count that is drawn first -/
theorem evn_lcR {g : TG} {vs : List Nat} {N : Nat → Prop} (ha : Ev K r te0 ds (fun w => ∃ n : Nat, w = .d (.int (n : Nat)) ∧ N n)) (k : ∀ n, N n → Ev K r (tLc (iRng1 (tCons (tC (.int (n : Nat))) tNil)) g tt te vs) ds P) : Ev K r (tLc (iRng1 (tCons te0 tNil)) g tt te vs) ds P := fun F σ H o f s Q q => by
  have key : te0 σ H (fun v H1 => (tLc (iRng1 (tCons (tC v) tNil)) g tt te vs) σ H1 Q) := by
    refine ha F σ H o f s _ fun v H1 w ⟨n, ew, hn⟩ s1 rx => ?_
    subst ew
    cases rx
    exact k n hn F σ H1 s1.on (s1.fok f) (s.same s1.same) Q fun v H2 w pw s2 rx => q v H2 w pw (s1.trans s2) rx
  exact key
theorem evn_rangemap {β : Type} {g : TG} {vs : List Nat} {ds' : Nat → Sl} (n : Nat) (hn : n ≤ 1000) (hb : β → PyData) (G : β → Prop)
    (hg : ∀ a, EvG K r g vs (wipeD ds vs) (.d (.int (a : Nat))) (ds' a)) (he : ∀ a, Ev K r te (ds' a) fun w => ∃ b, G b ∧ w = .d (hb b)) :
    Ev K r (tLc (iRng1 (tCons (tC (.int (n : Nat))) tNil)) g tYes te vs) ds fun w => ∃ bs : List β, bs.length = n ∧ (∀ b ∈ bs, G b) ∧ w = .d (.list (bs.map hb)) := by
  have h := evn_lcmap (K := K) (r := r) (ds := ds) (wi := iRng1 (tCons (tC (.int (n : Nat))) tNil)) (g := g) (vs := vs) (te := te) (List.range n) (gd := fun k => PyData.int (k : Nat)) (ds' := ds') hb G ?_ (by rw [List.length_range]; omega) (fun a _ => hg a) fun a _ => he a
  · rw [List.length_range] at h
    exact h
  · have e := ei_range (K := K) (r := r) (ds := ds) (n := (n : Int)) (t := tCons (tC (.int (n : Nat))) tNil) (ea_one ev_int) (by omega) (by omega)
    unfold rangeP at e
    rw [Int.toNat_natCast] at e
    exact e
end
/-! ### a def that hands back a new list of its own -/
def spL (K : PySem.W.Frag) {α : Type} (ar : α → Res → List Da) (pre : α → Res → Prop) (post : α → List PyData → Prop) : Sp := fun vs H Q _ =>
  ∃ (a : α) (F : List Addr) (r : Res), On r H ∧ FOk F r H ∧ RpXs K (hide (hid F r) H) vs (ar a r) ∧ pre a r ∧
    ∀ (p : Addr) (H2 : Hp) (xs : List PyData) (us : List V), post a xs → Stp r H H2 → H p = none → H2 p = some (.lst us) → RpAll K (hide (hid (p :: F) r) H2) us xs → Q (.ref p) H2
def LEnd (B : Bs) (post : List PyData → Prop) (D : Ends) : Prop := ∀ (p : Addr) (H2 : Hp) (xs : List PyData) (us : List V), post xs → Stp B.r B.H0 H2 → B.H0 p = none → H2 p = some (.lst us) → RpAll B.K (hide (hid (p :: B.F) B.r) H2) us xs → D.rt (.ref p) H2
section
variable {P : Program} {w : World} {K : PySem.W.Frag} {mg : Str → Option Value} {base : Heap}
theorem calL {x : Str} {st : Stmt} {N ps : List Str} {k : Nat} {α : Type} {ar : α → Res → List Da} {pre : α → Res → Prop} {post : α → List PyData → Prop} (F : ∃ fd, FunD K x x (defArgs st) (defBody st) (defScope st) [] [] (He.ga K x) fd) (hm : mg x = some (.ref (He.ga K x))) (S : FnScope N ps (defScope st))
    (bd : ∀ (kV doc pm : Value) (an : Option Addr) (cdv ct : Value) (us : List Value), us.length = ps.length → bindArgs (PySem.W.fnOf x x (defArgs st) (defBody st) (defScope st) .none kV doc pm an cdv ct) ⟨us, []⟩ = pure (ps.zip us)) (hlen : ∀ a r, (ar a r).length = ps.length)
    (hbody : ∀ (f : Addr) (cdv : Value) (A : Around) (outer : List Env) (s : Shared) (H : Hp) (E : XK), Room k (A.deeper (envOfC x (defScope st) s.heap.objs.size f cdv)) →
      ∃ t, PSs (cxOf CX0 P w K mg base N x (defScope st) f cdv A outer s H E).nox (defBody st) t ∧ ∀ (a : α) (r : Res) (F0 : List Addr) (H0 : Hp) (D : Ends), pre a r → LEnd ⟨K, F0, r, H0, fun _ => False⟩ (post a) D → Go ⟨K, F0, r, H0, fun _ => False⟩ none (startD N.length (ar a r)) t D) :
    Cal P w K mg base (k + 1) x ps (spL K ar pre post) := by
  obtain ⟨fd, F⟩ := F
  refine ⟨_, fd, F.ok S (fun vs H Q E h => ?_) (fun cdv A outer s H vs Q E hr h => ?_), hm, F.kp, FunD.bindsN F bd⟩
  · obtain ⟨a, F0, r, _, _, hx, _⟩ := h
    rw [hx.length, hlen]
  · obtain ⟨a, F0, r, ho, hf, hx, hp, hq⟩ := h
    obtain ⟨t, hd, go⟩ := hbody _ cdv A outer s H E hr
    exact ⟨t, hd.nox, go a r F0 H { nx := fun _ H' => Q .non H', rt := Q } hp hq _ H ⟨Stp.refl ho, hf, hf, fun _ z => (nomatch z), start_env hx⟩⟩
end
section
variable {B : Bs} {o : Ow} {ds : Sl} {P : Da → Prop} {te : TE} {tt : TT} {t u : TS} {D : Ends}
theorem rt_false {K : PySem.W.Frag} {F : List Addr} {r : Res} {H0 : Hp} {D : Ends} : Rt ⟨K, F, r, H0, fun _ => False⟩ D := ⟨fun _ _ _ h => False.elim h⟩
/-- return the list of one's own, new -/
theorem go_retL {post : List PyData → Prop} (R : LEnd B post D) {i : Nat} {p : Addr} {xs : List PyData} (e : ds[i]? = some (some (.v (.ref p)))) (k : post xs) : Go B (some (p, xs)) ds (tSeq (tRet (tVar i)) u) D := fun σ H x => by
  obtain ⟨v, e1, e2⟩ := x.env.at_ i _ e
  obtain rfl : v = V.ref p := e2
  obtain ⟨h0, vs, h1, h2⟩ := x.own _ rfl
  exact ⟨_, e1, R p H xs vs k x.stp h0 h1 h2⟩
theorem go_asgL {α : Type} {i : Nat} {ta : TA} {ar : α → Res → List Da} {pre : α → Res → Prop} {post : α → List PyData → Prop} {E : XK} (a : α) (ha : EvA B.K B.r ta ds (IsA (ar a B.r))) (hp : pre a B.r) (k : ∀ p xs, post a xs → Go B (some (p, xs)) (ds.set i (some (.v (.ref p)))) u D) :
    Go B none ds (tSeq (tAsg (tCall (spL B.K ar pre post) [] E ta) (gName i)) u) D := fun σ H x => by
  have key : ta σ H (fun vs H1 => spL B.K ar pre post (vs ++ []) H1 (fun v H2 => u D (σ.set i (some v)) H2) E) := by
    refine ha B.F σ H x.stp.on x.fok x.env _ fun vs H1 ws pw s1 rx => ?_
    subst pw
    rw [List.append_nil]
    refine ⟨a, B.F, B.r, s1.on, s1.fok x.fok, rx, hp, fun p H2 xs us px s2 np hp2 ra => ?_⟩
    have x1 := x.step s1
    have x2 := x1.step s2
    have out := new_out (F := B.F) s1.on (s1.fok x.fok) np
    refine k p xs px _ _ ⟨x2.stp, x2.f0, fun b hb => ?_, fun q e => ?_, ?_⟩
    · rcases List.mem_append.mp hb with z | z
      · rw [List.mem_singleton.mp z]
        exact ⟨by rw [hp2]; exact (fun z => nomatch z), fun z => out (List.mem_append_left _ z)⟩
      · exact x2.fok b z
    · cases e
      exact ⟨x1.stp.dom p np, us, hp2, ra⟩
    · have e1 : SEnv B.K (hide (hid ([p] ++ B.F) B.r) H2) σ ds := x1.env.same fun b v h => by
        obtain ⟨n, h1⟩ := hide_of h
        have np' : b ≠ p := ne_of_none h1 np
        have h2 := (hide_of (s2.same (F := B.F) b v h)).2
        refine hide_at (fun z => ?_) h2
        rcases List.mem_append.mp z with z | z
        · exact n (List.mem_append_left _ z)
        · rcases List.mem_append.mp z with z | z
          · exact np' (List.mem_singleton.mp z)
          · exact n (List.mem_append_right _ z)
      exact e1.set i rfl
  exact key
theorem own_env {σ : L2.St} {H : Hp} {i : Nat} {p : Addr} {xs : List PyData} (x : Holds B (some (p, xs)) ds σ H) (e : ds[i]? = some (some (.v (.ref p)))) : SEnv B.K (hide (hid B.F B.r) H) σ (ds.set i (some (.d (.list xs)))) := by
  obtain ⟨v, e1, e2⟩ := x.env.at_ i _ e
  obtain rfl : v = V.ref p := e2
  obtain ⟨h0, vs, h1, h2⟩ := x.own _ rfl
  have out : p ∉ hid B.F B.r := fun z => by
    rcases List.mem_append.mp z with z | z
    · exact (x.fok p (List.mem_append_left _ (List.mem_singleton.mpr rfl))).2 z
    · exact (x.f0 p z).1 h0
  have q := (x.env.same (hid_sub (G := [p]))).set i (v := .ref p) (w := .d (.list xs)) (Rp.lst (hide_at out h1) (h2.same hid_sub))
  have es : σ.set i (some (.ref p)) = σ := by
    apply List.ext_getElem?
    intro j
    by_cases ej : i = j
    · subst ej
      rw [List.getElem?_set_self (List.getElem?_eq_some_iff.mp e1).1, e1]
    · rw [List.getElem?_set_ne ej]
  rw [es] at q
  exact q
/-- x = an int, worked out with the list of one's own in sight -/
theorem go_setVI {i j : Nat} {p : Addr} {xs : List PyData} (e : ds[i]? = some (some (.v (.ref p)))) (h : Ev B.K B.r te (ds.set i (some (.d (.list xs)))) P) (k : ∀ w, P w → ∃ n : Int, w = .d (.int n) ∧ Go B (some (p, xs)) (ds.set j (some (.d (.int n)))) u D) :
    Go B (some (p, xs)) ds (tSeq (tAsg te (gName j)) u) D := fun σ H x => by
  have fB : FOk B.F B.r H := fun a ha => x.fok a (List.mem_append_right _ ha)
  have key : te σ H (fun v H1 => u D (σ.set j (some v)) H1) := by
    refine h B.F σ H x.stp.on fB (own_env x e) _ fun v H1 w pw s rx => ?_
    obtain ⟨n, rfl, kk⟩ := k w pw
    cases rx
    exact kk _ _ ((x.step s).set j (v := .int n) (w := .d (.int n)) (Rp.int n))
  exact key
/-- a, b, c = a triple, worked out with the list of one's own in sight -/
theorem go_unpV {i j l m : Nat} {p : Addr} {xs : List PyData} {K' : PySem.W.Frag} (e : ds[i]? = some (some (.v (.ref p)))) (h : Ev B.K B.r te (ds.set i (some (.d (.list xs)))) P) (k : ∀ w, P w → ∃ t : Tr, w = .d (tD t) ∧ Go B (some (p, xs)) (((ds.set j (some (.d (.str (S t.1))))).set l (some (.d (.int t.2.1)))).set m (some (.d (.int t.2.2)))) u D) (hK : K' = B.K := by rfl) :
    Go B (some (p, xs)) ds (tSeq (tAsg te (gTup K' 3 (gCons (gName j) (gCons (gName l) (gCons (gName m) gNil))))) u) D := fun σ H x => by
  subst hK
  have fB : FOk B.F B.r H := fun a ha => x.fok a (List.mem_append_right _ ha)
  have key : te σ H (fun v H1 => gTup B.K 3 (gCons (gName j) (gCons (gName l) (gCons (gName m) gNil))) v σ H1 fun σ' H' => u D σ' H') := by
    refine h B.F σ H x.stp.on fB (own_env x e) _ fun v H1 w pw s rx => ?_
    obtain ⟨t, rfl, kk⟩ := k w pw
    have rx' : Rp B.K (hide (hid B.F B.r) H1) v (.tuple [.str (S t.1), .int t.2.1, .int t.2.2]) := rx
    cases rx' with
    | tup hs ra =>
      cases ra with
      | cons r1 ra =>
        cases ra with
        | cons r2 ra =>
          cases ra with
          | cons r3 ra =>
            cases ra
            cases r1; cases r2; cases r3
            refine ⟨_, _, rfl, Same.sqt hide_same hs, rfl, ?_⟩
            refine ⟨_, _, rfl, _, _, rfl, _, _, rfl, rfl, ?_⟩
            exact kk _ _ ((((x.step s).set j (v := .str (S t.1)) (w := .d (.str (S t.1))) (Rp.str _)).set l (v := .int t.2.1) (w := .d (.int t.2.1)) (Rp.int _)).set m (v := .int t.2.2) (w := .d (.int t.2.2)) (Rp.int _))
  exact key
/-- x[k] = e, in the list of one's own -/
theorem go_putO {i j : Nat} {p : Addr} {xs : List PyData} {n : Nat} (e : ds[i]? = some (some (.v (.ref p)))) (ej : ds[j]? = some (some (.d (.int (n : Nat))))) (hn : n < xs.length) (h : Ev B.K B.r te ds P) (k : ∀ w, P w → ∃ d, w = .d d ∧ Go B (some (p, xs.set n d)) ds u D) :
    Go B (some (p, xs)) ds (tSeq (tAsg te (gSub (tVar i) (tVar j) rSetL)) u) D := fun σ H x => by
  have key : te σ H (fun v H1 => gSub (tVar i) (tVar j) rSetL v σ H1 fun σ' H' => u D σ' H') := by
    refine run_ev h x fun v H2 w pw s x2 rx => ?_
    obtain ⟨d, rfl, kk⟩ := k w pw
    obtain ⟨v1, e1, e2⟩ := x2.env.at_ i _ e
    obtain rfl : v1 = V.ref p := e2
    obtain ⟨v2, e3, e4⟩ := x2.env.at_ j _ ej
    cases e4
    obtain ⟨h0, vs, h1, h2⟩ := x2.own _ rfl
    have hl := h2.length
    refine ⟨_, e1, _, e3, p, vs, (n : Nat), n, rfl, rfl, h1, ?_, ?_⟩
    · unfold ixN
      rw [if_pos (by omega), if_pos (by rw [hl]; exact Int.ofNat_lt.mpr hn), Int.toNat_natCast]
    · exact kk _ _ (x2.write (h2.set rx n))
  exact key
end
section
variable {K : PySem.W.Frag} {r : Res} {ds : Sl} {P : Da → Prop} {ta : TA}
theorem ev_callL' {α : Type} {ar : α → Res → List Da} {pre : α → Res → Prop} {post : α → List PyData → Prop} {E : XK} (a : α) (ha : EvA K r ta ds (IsA (ar a r))) (hp : pre a r) : Ev K r (tCall (spL K ar pre post) [] E ta) ds (fun w => ∃ xs, post a xs ∧ w = .d (.list xs)) := fun F σ H o f s Q q => by
  refine ha F σ H o f s _ fun vs H1 ws pw s1 rx => ?_
  subst pw
  show spL K ar pre post (vs ++ []) H1 Q E
  rw [List.append_nil]
  refine ⟨a, F, r, s1.on, s1.fok f, rx, hp, fun p H2 xs us px s2 np hp2 ra => ?_⟩
  refine q _ H2 _ ⟨xs, px, rfl⟩ (s1.trans s2) (Rp.lst (hide_at (new_out s1.on (s1.fok f) np) hp2) (ra.same ?_))
  exact hid_sub (G := [p])
end
section
variable {P : Program} {w w' : World} {K K' : PySem.W.Frag} {mg : Str → Option Value} {base : Heap} {r : Res} {ds : Sl} {ta : TA}
theorem up1_lt : ∀ c ∈ Lt, PyProof.Rows.up1 c ∈ Lt := by decide
/-- a letter's triple in bounds -/
structure LB (p q : Int) (t : LT) : Prop where
  c : t.1 ∈ Lt
  p1 : -p ≤ t.2.1
  p2 : t.2.1 ≤ p
  q1 : -q ≤ t.2.2
  q2 : t.2.2 ≤ q
theorem LB.mono {p q p' q' : Int} {t : LT} (h : LB p q t) (h1 : p ≤ p') (h2 : q ≤ q') : LB p' q' t := ⟨h.c, by have := h.p1; omega, by have := h.p2; omega, by have := h.q1; omega, by have := h.q2; omega⟩
def sp_law_part (K : PySem.W.Frag) : Sp := spB K (fun w : Wd => [.d (.str (S w))]) (fun w => LW w ∧ 1 ≤ w.length ∧ w.length ≤ 100) fun _ x => ∃ t : LT, LB 3 4 t ∧ x = .d (tD (up t))
-- slots: 0=_law_bag_here 1=_law_letters 2=_law_by 3=_law_over
theorem sc_law_part : FnScope ["_law_bag_here", "_law_letters", "_law_by", "_law_over"] ["_law_bag_here", "_law_letters"] (defScope s_law_part) := C8.fnScope_by (by decide +kernel)
theorem c_law_part (T : Tx K mg w) : Cal P w K mg base 3 "_law_part" ["_law_bag_here", "_law_letters"] (sp_law_part K) := by
  refine calG T.e_law_part T.g_law_part sc_law_part (fun _ _ _ _ _ _ us hl => match us, hl with | [_, _], _ => rfl) (fun _ _ => rfl) fun f cdv A outer s H E hr => ?_
  refine ⟨_, (pss_cons (ps_par (i := 2) (j := 3) rfl sc_law_part.nd rfl rfl (by decide) rfl rfl (pa_cons (pe_c (c_law_of T) hr (by decide) (by rfl) (pa_cons (pv 0) (pa_cons (pe_lst (pa_cons pe_int (pa_cons pe_int (pa_cons pe_int (pa_cons (pe_un un_neg pe_int) (pa_cons pe_int (pa_cons (pe_un un_neg pe_int) (pa_cons pe_int pa_nil)))))))) pa_nil))) (pa_cons (pe_op op_sub (pe_c (c_law_take T) hr (by decide) (by rfl) (pa_cons (pv 0) (pa_cons pe_int pa_nil))) pe_int) pa_nil)) (by rfl))
    (pss_cons (ps_ret (pe_tup (pa_cons (pe_c (c_law_of T) hr (by decide) (by rfl) (pa_cons (pv 0) (pa_cons (pe_callTy (call_listS rfl) (by rfl) T.f_list (by decide +kernel) (pa_cons (pe_op op_add_str (pv 1) (pe_upper (pv 1))) pa_nil)) pa_nil))) (pa_cons (pv 2) (pa_cons (pe_ifExp (PW.pt (pw_and (pt_cmpR op_eq (pv 2) pe_int (nomark _)) (pw_and1 (pt_cmpR op_eq (pv 3) pe_int (nomark _))))) pe_int (pv 3)) pa_nil)))))
    pss_nil)), ?_⟩
  intro a r F0 H0 D hp R
  dsimp only [nox_K]
  obtain ⟨hr1, hw, h1, h2⟩ := hp
  obtain ⟨b, rfl⟩ := Option.isSome_iff_exists.mp hr1
  have hl : a.length ≤ 100000 := by omega
  refine go_par (Pa := fun ws => ∃ x y, Bt (-2) 3 x ∧ Bt (-4) 4 y ∧ ws = [x, y]) (ean2 ?_ ?_) ?_
  · refine (ec_law_of (xs := [.int 0, .int 1, .int 1, .int (-1), .int 2, .int (-2), .int 3]) (ea_cons (ev_var rfl) (ea_one (ev_lst (xs := [.int 0, .int 1, .int 1, .int (-1), .int 2, .int (-2), .int 3]) ?_ (by simp)))) (by simp) (by simp)).imp fun w ⟨x, hx, e⟩ => ?_
    · show EvA _ _ _ _ (IsA [.d (.int 0), .d (.int 1), .d (.int 1), .d (.int (-1)), .d (.int 2), .d (.int (-2)), .d (.int 3)])
      walk_at "ea"
    · subst e
      simp only [List.mem_cons, List.not_mem_nil, or_false] at hx
      rcases hx with rfl | rfl | rfl | rfl | rfl | rfl | rfl <;> exact ⟨_, rfl, by decide, by decide⟩
  · exact (ev_bsub ((ec_law_take (n := 9) (ea_cons (ev_var rfl) (ea_one ev_int)) (by decide) (by decide)).imp fun w h => h.bt) (ev_ival ev_int)).imp fun w h => h.mono (by decide) (by decide)
  rintro ws ⟨x, y, ⟨p, rfl, p1, p2⟩, ⟨q, rfl, q1, q2⟩, rfl⟩
  refine ⟨_, _, rfl, ?_⟩
  refine go_ret R (P := fun x => ∃ t : LT, LB 3 4 t ∧ x = .d (tD (up t))) (evn_tup (ean3 (Pa := fun x => ∃ c ∈ Lt, x = .d (.str (S [c]))) (Pb := Is (.d (.int p))) (Pc := Bt (-4) 4) ?_ (ev_var rfl) ?_) ?_) fun w e => e
  · have hup : (a.map PyProof.Rows.up1).length = a.length := List.length_map _
    refine (ec_law_of (xs := (a ++ a.map PyProof.Rows.up1).map fun c => .str (S [c])) (ea_cons (ev_var rfl) (ea_one (ev_cb (ea_one ?_) (rc_listW ?_)))) ?_ ?_).imp fun w ⟨x, hx, e⟩ => ?_
    · walk_at "ev"
    · rw [List.length_append, hup]; omega
    · rw [List.length_map, List.length_append, hup]; omega
    · rw [List.length_map, List.length_append, hup]; omega
    · subst e
      obtain ⟨c, hc, rfl⟩ := List.mem_map.mp hx
      refine ⟨c, ?_, rfl⟩
      rcases List.mem_append.mp hc with h | h
      · exact hw c h
      · obtain ⟨d, hd, rfl⟩ := List.mem_map.mp h
        exact up1_lt d (hw d hd)
  · refine evn_if (Pb := IsB (p == 0 && q == 0)) ?_ (fun _ => ?_) fun _ => ?_
    · walk_at "et"
    · exact (ev_ival ev_int).imp fun w h => h.mono (by decide) (by decide)
    · exact (ev_var rfl).imp fun w e => ⟨q, e, q1, q2⟩
  · rintro ws ⟨x, y, z, ⟨c, hc, rfl⟩, rfl, ⟨q', rfl, h3, h4⟩, rfl⟩
    exact ⟨[.str (S [c]), .int p, .int q'], rfl, by simp, (c, p, q'), ⟨hc, by show -3 ≤ p; omega, p2, h3, h4⟩, rfl⟩
theorem ec_law_part {w : Wd} {b : Addr} (h : EvA K (some b) ta ds (IsA [.v (.ref b), .d (.str (S w))])) (h1 : LW w) (h2 : 1 ≤ w.length) (h3 : w.length ≤ 100) : Ev K (some b) (tCall (sp_law_part K) [] E0 ta) ds (fun x => ∃ t : LT, LB 3 4 t ∧ x = .d (tD (up t))) := ev_callB w h rfl rfl ⟨h1, h2, h3⟩
def LBs (p q : Int) (l : List LT) : Prop := ∀ t ∈ l, LB p q t
def undP (a : List LT × Int × Int) (xs : List PyData) : Prop := ∃ l : List LT, l.length = a.1.length ∧ LBs a.2.1 a.2.2 l ∧ xs = tsD (upR l)
def sp_law_undoing (K : PySem.W.Frag) : Sp := spL K (fun (a : List LT × Int × Int) r => [.v (.ref (r.getD 0)), .d (.list (tsD (upR a.1)))]) (fun a r => r.isSome = true ∧ LBs a.2.1 a.2.2 a.1 ∧ a.1.length ≤ 100) undP
local macro_rules | `(tactic| walk_at "ec") => `(tactic| first | ((with_reducible apply ec_law_back_word); walk_at "ea"; walk_at "sd"; walk_at "sd"))
-- slots: 0=_law_bag_here 1=_law_row 2=_law_found 3=_law_strand 4=_law_by 5=_law_over
theorem sc_law_undoing : FnScope ["_law_bag_here", "_law_row", "_law_found", "_law_strand", "_law_by", "_law_over"] ["_law_bag_here", "_law_row"] (defScope s_law_undoing) := C8.fnScope_by (by decide +kernel)
theorem c_law_undoing (T : Tx K mg w) : Cal P w K mg base 2 "_law_undoing" ["_law_bag_here", "_law_row"] (sp_law_undoing K) := by
  refine calL T.e_law_undoing T.g_law_undoing sc_law_undoing (fun _ _ _ _ _ _ us hl => match us, hl with | [_, _], _ => rfl) (fun _ _ => rfl) fun f cdv A outer s H E hr => ?_
  refine ⟨_, (pss_cons (ps_set (i := 2) sc_law_undoing.nd rfl (Or.inl rfl) (pe_lst pa_nil))
    (pss_cons (ps_for PassesOwn.never rfl (pi_list (pe_revL (pv 1))) (pg_tup rfl (pgs_cons (pg_name (i := 3) sc_law_undoing.nd rfl (Or.inl rfl)) (pgs_cons (pg_name (i := 4) sc_law_undoing.nd rfl (Or.inl rfl)) (pgs_cons (pg_name (i := 5) sc_law_undoing.nd rfl (Or.inl rfl)) pgs_nil)))) (pss_cons (ps_if (pt_cmpR op_eq (pe_c (c_law_take T) hr (by decide) (by rfl) (pa_cons (pv 0) (pa_cons pe_int pa_nil))) pe_int (nomark _)) (pss_cons (ps_expr (pe_bm PySem.F.plainAttrs_list PySem.F.slot_list_append PySem.F.type_list_append mt_append (pv 2) (pa_cons (pe_tup (pa_cons (pv 3) (pa_cons (pe_un un_neg (pv 4)) (pa_cons (pe_un un_neg (pv 5)) pa_nil)))) pa_nil)))
    pss_nil) (pss_cons (ps_expr (pe_bm PySem.F.plainAttrs_list PySem.F.slot_list_append PySem.F.type_list_append mt_append (pv 2) (pa_cons (pe_tup (pa_cons (pe_c (c_law_back_word T) hr (by decide) (by rfl) (pa_cons (pv 3) pa_nil)) (pa_cons (pv 4) (pa_cons (pv 5) pa_nil)))) pa_nil)))
    pss_nil))
    pss_nil))
    (pss_cons (ps_ret (pv 2))
    pss_nil))), ?_⟩
  intro a r F0 H0 D hp R
  dsimp only [nox_K]
  obtain ⟨row, p0, q0⟩ := a
  obtain ⟨hr1, hb, hl⟩ := hp
  obtain ⟨b, rfl⟩ := Option.isSome_iff_exists.mp hr1
  dsimp only at hb hl ⊢
  apply go_new
  intro p
  have hrev : (tsD (upR row)).reverse = tsD (upR row.reverse) := by unfold tsD upR; rw [List.map_reverse, List.map_reverse]
  refine go_for (vs := [3, 4, 5]) (xs := tsD (upR row.reverse)) rt_false (fun i o ds => ∃ l : List LT, o = some (p, tsD (upR l)) ∧ l.length = i ∧ LBs p0 q0 l ∧ ∃ s3 s4 s5 : Option Da, ds = [some (.v (.ref b)), some (.d (.list (tsD (upR row)))), some (.v (.ref p)), s3, s4, s5]) (by rw [← hrev]; exact ei_list (ev_revL (ev_var rfl))) ⟨[], rfl, rfl, fun t h => (nomatch h), none, none, none, rfl⟩ ?_ ?_
  · rintro H1 i d o' ds' hd _ ⟨l, rfl, hli, hlb, s3, s4, s5, rfl⟩
    have hd' : ∃ t, t ∈ row ∧ d = tD (up t) ∧ i < row.length := by
      unfold tsD upR at hd
      rw [List.getElem?_map, List.getElem?_map] at hd
      cases q : row.reverse[i]? with
      | none =>
        rw [q] at hd
        cases hd
      | some t =>
        rw [q] at hd
        cases hd
        have hi := (List.getElem?_eq_some_iff.mp q).1
        rw [List.length_reverse] at hi
        exact ⟨t, List.mem_reverse.mp (List.mem_of_getElem? q), rfl, hi⟩
    obtain ⟨t, ht, rfl, hi⟩ := hd'
    have hbt := hb t ht
    have lw := lw1 hbt.c
    refine ⟨_, eg_tD (by decide) (by decide) (by decide), fun D' R' nx => ?_⟩
    dsimp only [up]
    have app : ∀ t' : LT, LB p0 q0 t' → LBs p0 q0 (l ++ [t']) := fun t' h x hx => by
      rcases List.mem_append.mp hx with z | z
      · exact hlb x z
      · rw [List.mem_singleton.mp z]; exact h
    have hlen : (tsD (upR l)).length < 100000 := by rw [tsD_len, upR_len]; omega
    have ee : ∀ t' : LT, tsD (upR l) ++ [tD (up t')] = tsD (upR (l ++ [t'])) := fun t' => by rw [upR_app, tsD_app]; rfl
    refine gon_if (Pb := fun _ => True) (et_any (ev_deq (ec_law_take (n := 2) (ea_cons (ev_var rfl) (ea_one ev_int)) (by decide) (by decide)))) (fun _ => ?_) fun _ => ?_
    · apply go_assoc
      refine go_append rfl hlen (ev_tD (a := [t.1]) (b := -t.2.1) (c := -t.2.2) ?_) fun w ew => ⟨_, ew, go_skip ?_⟩
      · walk_at "ea"
      refine go_next (nx _ _ rfl ⟨l ++ [(t.1, -t.2.1, -t.2.2)], ?_, by rw [List.length_append, List.length_singleton, hli], app _ ⟨hbt.c, ?_, ?_, ?_, ?_⟩, _, _, _, rfl⟩)
      · rw [← ee]
        rfl
      · have := hbt.p2; show -p0 ≤ -t.2.1; omega
      · have := hbt.p1; show -t.2.1 ≤ p0; omega
      · have := hbt.q2; show -q0 ≤ -t.2.2; omega
      · have := hbt.q1; show -t.2.2 ≤ q0; omega
    · apply go_assoc
      refine go_append rfl hlen (ev_tD (a := und [t.1]) (b := t.2.1) (c := t.2.2) ?_) fun w ew => ⟨_, ew, go_skip ?_⟩
      · walk_at "ea"
      refine go_next (nx _ _ rfl ⟨l ++ [(flp t.1, t.2.1, t.2.2)], ?_, by rw [List.length_append, List.length_singleton, hli], app _ ⟨flp_lt _ hbt.c, hbt.p1, hbt.p2, hbt.q1, hbt.q2⟩, _, _, _, rfl⟩)
      rw [← ee]
      rfl
  · rintro o' ds' _ ⟨l, rfl, hli, hlb, s3, s4, s5, rfl⟩
    refine go_retL R rfl ⟨l, ?_, hlb, rfl⟩
    rw [hli, tsD_len, upR_len, List.length_reverse]
theorem ec_law_undoing {l : List LT} {p q : Int} {b : Addr} (h : EvA K (some b) ta ds (IsA [.v (.ref b), .d (.list (tsD (upR l)))])) (h1 : LBs p q l) (h2 : l.length ≤ 100) : Ev K (some b) (tCall (sp_law_undoing K) [] E0 ta) ds (fun x => ∃ l' : List LT, l'.length = l.length ∧ LBs p q l' ∧ x = .d (.list (tsD (upR l')))) := (ev_callL' (l, p, q) h ⟨rfl, h1, h2⟩).imp fun w ⟨xs, ⟨l', e1, e2, e3⟩, e⟩ => ⟨l', e1, e2, by rw [e, e3]⟩
/-- a short word -/
def Sw (x : Da) : Prop := ∃ w : Wd, x = .d (.str (S w)) ∧ LW w ∧ 1 ≤ w.length ∧ w.length ≤ 3
theorem sw_lits : ∀ x ∈ [PyData.str (Str.ofString "ab"), .str (Str.ofString "abAB"), .str (Str.ofString "cD"), .str (Str.ofString "eFf"), .str (Str.ofString "abcdefABCDEF")], ∃ w : Wd, x = .str (S w) ∧ LW w ∧ 1 ≤ w.length ∧ w.length ≤ 12 := by
  intro x hx
  simp only [List.mem_cons, List.not_mem_nil, or_false] at hx
  have lw : ∀ l : Wd, (l.all fun c => decide (c ∈ Lt)) = true → LW l := fun l h c hc => of_decide_eq_true (List.all_eq_true.mp h c hc)
  rcases hx with rfl | rfl | rfl | rfl | rfl
  · exact ⟨[97, 98], by rw [show Str.ofString "ab" = S [97, 98] by decide +kernel], lw _ rfl, by decide, by decide⟩
  · exact ⟨[97, 98, 65, 66], by rw [show Str.ofString "abAB" = S [97, 98, 65, 66] by decide +kernel], lw _ rfl, by decide, by decide⟩
  · exact ⟨[99, 68], by rw [show Str.ofString "cD" = S [99, 68] by decide +kernel], lw _ rfl, by decide, by decide⟩
  · exact ⟨[101, 70, 102], by rw [show Str.ofString "eFf" = S [101, 70, 102] by decide +kernel], lw _ rfl, by decide, by decide⟩
  · exact ⟨[97, 98, 99, 100, 101, 102, 65, 66, 67, 68, 69, 70], by rw [show Str.ofString "abcdefABCDEF" = S [97, 98, 99, 100, 101, 102, 65, 66, 67, 68, 69, 70] by decide +kernel], lw _ rfl, by decide, by decide⟩
def sp_law_short_word (K : PySem.W.Frag) : Sp := spB K (fun _ : Unit => []) (fun _ => True) fun _ => Sw
-- slots: 0=_law_bag_here 1=_law_letters 2=_law_step
theorem sc_law_short_word : FnScope ["_law_bag_here", "_law_letters", "_law_step"] ["_law_bag_here"] (defScope s_law_short_word) := C8.fnScope_by (by decide +kernel)
theorem c_law_short_word (T : Tx K mg w) : Cal P w K mg base 3 "_law_short_word" ["_law_bag_here"] (sp_law_short_word K) := by
  refine calG T.e_law_short_word T.g_law_short_word sc_law_short_word (fun _ _ _ _ _ _ us hl => match us, hl with | [_], _ => rfl) (fun _ _ => rfl) fun f cdv A outer s H E hr => ?_
  refine ⟨_, (pss_cons (ps_set (i := 1) sc_law_short_word.nd rfl (Or.inr rfl) (pe_callTy (call_listS rfl) (by rfl) T.f_list (by decide +kernel) (pa_cons (pe_c (c_law_of T) hr (by decide) (by rfl) (pa_cons (pv 0) (pa_cons (pe_lst (pa_cons pe_str (pa_cons pe_str (pa_cons pe_str (pa_cons pe_str (pa_cons pe_str pa_nil)))))) pa_nil))) pa_nil)))
    (pss_cons (ps_ret (pe_join pe_str (pe_lc (te := (tCall (sp_law_of K) [] E0 (tCons (tVar 0) (tCons (tVar 1) tNil)))) (own := [("_law_step", 2)]) (g := (gName 2)) (tt := tYes) rfl sc_law_short_word.nd (pi_range1 (by rfl) T.f_range (pa_cons (pe_op op_add pe_int (pe_c (c_law_take T) hr (by decide) (by rfl) (pa_cons (pv 0) (pa_cons pe_int pa_nil)))) pa_nil)) (blkOk_by (own := [("_law_step", 2)]) (N := ["_law_bag_here", "_law_letters", "_law_step"]) (sc := defScope s_law_short_word) (by decide +kernel)) (fun _ _ _ _ _ => (pg_name (i := 2) sc_law_short_word.nd rfl (Or.inl rfl))) (fun _ _ _ _ _ => pts_nil) (fun _ _ _ _ _ => (pe_c (c_law_of T) hr (by decide) (by rfl) (pa_cons (pv 0) (pa_cons (pv 1) pa_nil)))))))
    pss_nil)), ?_⟩
  intro a r F0 H0 D hp R
  dsimp only [nox_K]
  obtain ⟨hr1, _⟩ := hp
  obtain ⟨b, rfl⟩ := Option.isSome_iff_exists.mp hr1
  refine go_asg (P := fun x => ∃ w : Wd, x = .d (.list (w.map fun c => .str (S [c]))) ∧ LW w ∧ 1 ≤ w.length ∧ w.length ≤ 12) ?_ fun x ⟨w0, ex, hw, h1, h2⟩ => ?_
  · refine evn_cb (ean1 (ec_law_of (xs := [.str (Str.ofString "ab"), .str (Str.ofString "abAB"), .str (Str.ofString "cD"), .str (Str.ofString "eFf"), .str (Str.ofString "abcdefABCDEF")]) (ea_cons (ev_var rfl) (ea_one (ev_lst (xs := [.str (Str.ofString "ab"), .str (Str.ofString "abAB"), .str (Str.ofString "cD"), .str (Str.ofString "eFf"), .str (Str.ofString "abcdefABCDEF")]) (ea_cons ev_str (ea_cons ev_str (ea_cons ev_str (ea_cons ev_str (ea_one ev_str))))) (by simp)))) (by simp) (by simp))) ?_
    rintro ws ⟨y, ⟨x, hx, rfl⟩, rfl⟩
    obtain ⟨w0, rfl, hw, h1, h2⟩ := sw_lits x hx
    exact fun F H vs o f hv Q q => rc_listW (by omega) F H vs o f hv Q fun u H2 z ez s rx => q u H2 z ⟨w0, ez, hw, h1, h2⟩ s rx
  subst ex
  refine go_ret R (P := Sw) (evn_m1 (Pb := fun x => ∃ cs : Wd, LW cs ∧ 1 ≤ cs.length ∧ cs.length ≤ 3 ∧ x = .d (.list (cs.map fun c => .str (S [c])))) ev_str (evn_lcR (N := fun n => 1 ≤ n ∧ n ≤ 3) ?_ fun n hn => ?_) ?_) fun w e => e
  · refine (ev_badd (ev_ival ev_int) ((ec_law_take (n := 3) (ea_cons (ev_var rfl) (ea_one ev_int)) (by decide) (by decide)).imp fun w h => h.bt)).imp fun w ⟨i, e, g1, g2⟩ => ⟨i.toNat, ?_, by omega, by omega⟩
    rw [Int.toNat_of_nonneg (by omega)]
    exact e
  · refine (evn_rangemap (ds' := fun k => [some (.v (.ref b)), some (.d (.list (w0.map fun c => .str (S [c])))), some (.d (.int (k : Nat)))]) n (by omega) (fun c : Nat => PyData.str (S [c])) (· ∈ Lt) (fun k => eg_name (by decide)) fun k => ?_).imp fun x ⟨cs, e1, e2, e3⟩ => ⟨cs, e2, by omega, by omega, e3⟩
    refine (ec_law_of (xs := w0.map fun c => .str (S [c])) (ea_cons (ev_var rfl) (ea_one (ev_var rfl))) (by rw [List.length_map]; omega) (by rw [List.length_map]; omega)).imp fun w ⟨x, hx, e⟩ => ?_
    obtain ⟨c, hc, rfl⟩ := List.mem_map.mp hx
    exact ⟨c, hw c hc, e⟩
  · rintro x ⟨cs, c1, c2, c3, rfl⟩
    have z := rm_join (K := K) (r := some b) (x := S []) (zs := cs.map fun c => S [c]) (by rw [sum_ones _ (by intro z hz; obtain ⟨c, _, rfl⟩ := List.mem_map.mp hz; rfl), List.length_map]; show _ + _ * 0 ≤ _; omega)
    rw [show (cs.map fun c => S [c]) = cs.map fun c => S [id c] from rfl, join_w, List.map_id] at z
    rw [List.map_map] at z
    exact fun F H v vs o f hv hw Q q => z F H v vs o f hv hw Q fun u H2 y ey s rx => q u H2 y ⟨cs, ey, c1, c2, c3⟩ s rx
theorem ec_law_short_word {b : Addr} (h : EvA K (some b) ta ds (IsA [.v (.ref b)])) : Ev K (some b) (tCall (sp_law_short_word K) [] E0 ta) ds Sw := ev_callB () h rfl rfl trivial
end
end Kn

set_option Elab.async false
set_option linter.all false
set_option maxRecDepth 100000
set_option maxHeartbeats 4000000
/-! Rows of letters are drawn. -/
namespace Kn
open PySem PySem.Spec PyProof.Rows L2
local macro_rules | `(tactic| walk_at "sd") => `(tactic| first | trivial | assumption | walk_at "sz")
local macro_rules | `(tactic| walk_at "sz") => `(tactic| first | assumption | decide | omega | rfl | (simp only [List.length_append, List.length_map, List.length_cons, List.length_nil, List.length_reverse]; omega))
local macro_rules | `(tactic| walk_at "rv") => `(tactic| with_reducible first
  | exact rv_ix0 | exact rv_ix1 | exact rv_ix2 | exact rv_eqI | exact rv_neI | exact rv_eqE | exact rv_neE | exact rv_eqW | exact rv_neW | exact rv_eqS | exact rv_neS
  | exact rv_int0 | exact rv_bl0
  | exact rv_ixT0 | exact rv_ixT1
  | exact rv_ixRT (by assumption) | exact rv_ixRL (by assumption) | (apply rv_ixW; walk_at "sz"; assumption)
  | (refine rv_addW ?_; walk_at "sz")
  | (refine rv_catRT ?_; walk_at "sz") | (refine rv_catRL ?_; walk_at "sz")
  | (refine rv_intC ?_; assumption) | (apply rv_mulW; walk_at "sz"; walk_at "sz"; walk_at "sz")
  | exact rv_inW | exact rv_inSign | exact rv_isN | exact rv_notN | exact rv_notBl
  | exact rv_ixT (by with_unfolding_all rfl) | exact rv_ixL (by with_unfolding_all rfl)
  | exact rv_ixT (by assumption) | exact rv_ixL (by assumption)
  | (refine rv_catA ?_; walk_at "sz") | (refine rv_cat ?_; walk_at "sz"))
local macro_rules | `(tactic| walk_at "rs") => `(tactic| with_reducible first
  | exact rs_rT | exact rs_rL
  | (refine rs_w ?_ ?_; walk_at "sz"; (with_unfolding_all first | exact Nat.zero_le _ | exact HT.sIx_le _ _ (Nat.zero_le _) _ | assumption))
  | exact rs_tup | exact rs_list
  | (refine rs_str ?_; walk_at "sz"))
local macro_rules | `(tactic| walk_at "rc") => `(tactic| with_reducible first
  | exact rc_lenD3 | exact rc_lenRT | exact rc_lenRL | exact rc_lenT | exact rc_lenL | (refine rc_lenW ?_; walk_at "sz") | (refine rc_lenS ?_; walk_at "sz")
  | exact rc_isi (kit_int _) | exact rc_isi (kit_bool _) | exact rc_isi (kit_str _) | exact rc_isi (kit_tup _)
  | exact rc_max | exact rc_min | exact rc_int | exact rc_abs | exact rc_all | exact rc_tupL | exact rc_tupT | exact rc_list | exact rc_listT | (refine rc_listW ?_; walk_at "sz"))
local macro_rules | `(tactic| walk_at "rm") => `(tactic| first | (with_reducible apply rm_lowW; assumption; walk_at "sz") | (with_reducible apply rm_upW; assumption; walk_at "sz"))
local macro_rules | `(tactic| walk_at "ea") => `(tactic| first
  | with_reducible exact ea_nil
  | ((with_reducible apply ea_cons); walk_at "ev"; walk_at "ea"))
local macro_rules | `(tactic| walk_at "eo") => `(tactic| first
  | with_reducible exact eo_none
  | ((with_reducible apply eo_some); walk_at "ev"))
local macro_rules | `(tactic| walk_at "et") => `(tactic| first
  | ((with_reducible apply et_test); walk_at "ev")
  | ((with_reducible apply et_B); walk_at "ev")
  | ((with_reducible apply et_not); walk_at "et")
  | ((with_reducible apply et_and); walk_at "et"; intro _; walk_at "et")
  | ((with_reducible apply et_or); walk_at "et"; intro _; walk_at "et"))
local macro_rules | `(tactic| walk_at "ev") => `(tactic| first
  | with_reducible exact ev_int | with_reducible exact ev_str | with_reducible exact ev_bl | with_reducible exact ev_non | with_reducible exact ev_val
  | ((with_reducible apply ev_var); exact rfl)
  | ((with_reducible apply ev_op); walk_at "ev"; walk_at "ev"; walk_at "rv")
  | ((with_reducible apply ev_un); walk_at "ev"; exact ru_neg)
  | ((with_reducible apply ev_and); walk_at "ev"; intro _; walk_at "ev")
  | ((with_reducible apply ev_or); walk_at "ev"; intro _; walk_at "ev")
  | ((with_reducible apply ev_not); walk_at "ev")
  | ((with_reducible apply ev_sl); walk_at "ev"; walk_at "eo"; walk_at "eo"; walk_at "rs")
  | ((with_reducible apply ev_chain); walk_at "ev"; walk_at "ev"; walk_at "rv"; (intro _; walk_at "ev"); (intro _; walk_at "rv"))
  | walk_at "ec"
  | ((with_reducible apply ev_if); walk_at "et"; (intro _; walk_at "ev"); (intro _; walk_at "ev"))
  | ((with_reducible apply ev_m0); walk_at "ev"; walk_at "rm")
  | ((with_reducible apply ev_cb); walk_at "ea"; walk_at "rc")
  | ((with_reducible apply ev_tD); walk_at "ea")
  | with_reducible exact ev_rT0 | with_reducible exact ev_rL0
  | ((with_reducible apply ev_rT1); walk_at "ea") | ((with_reducible apply ev_rT2); walk_at "ea") | ((with_reducible apply ev_rT3); walk_at "ea")
  | ((with_reducible apply ev_rL1); walk_at "ea") | ((with_reducible apply ev_rL2); walk_at "ea") | ((with_reducible apply ev_rL3); walk_at "ea") | ((with_reducible apply ev_rL4); walk_at "ea")
  | ((with_reducible apply ev_revW); walk_at "ev"; walk_at "sz")
  | ((with_reducible apply ev_revL); walk_at "ev")
  | ((with_reducible apply ev_revT); walk_at "ev"))
local macro_rules | `(tactic| walk_at "ret") => `(tactic| (apply go_retE; assumption; exact rfl; walk_at "ev"))
local macro_rules | `(tactic| walk_at "if") => `(tactic| (apply go_if; walk_at "et"))
local macro_rules | `(tactic| walk_at "set") => `(tactic| (apply go_set; walk_at "ev"))
local macro_rules | `(tactic| walk_at "eg") => `(tactic| first | exact eg_name (by decide) | exact eg_tD (by decide) (by decide) (by decide))
section
variable {K K' : PySem.W.Frag} {r : Res} {ds : Sl} {P : Da → Prop} {ta tb tc te te0 : TE} {tt : TT}
def LN (n : Nat) (w : Da) : Prop := ∃ l : List LT, w = .d (.list (tsD (upR l))) ∧ l.length ≤ n ∧ LBs 5 20 l
theorem LN.mono {n m : Nat} {w : Da} (h : LN n w) (hm : n ≤ m) : LN m w := by
  obtain ⟨l, e, h1, h2⟩ := h
  exact ⟨l, e, by omega, h2⟩
theorem LBs.mono {p q p' q' : Int} {l : List LT} (h : LBs p q l) (h1 : p ≤ p') (h2 : q ≤ q') : LBs p' q' l := fun t ht => (h t ht).mono h1 h2
theorem LBs.app {p q : Int} {l m : List LT} (h : LBs p q l) (h2 : LBs p q m) : LBs p q (l ++ m) := fun t ht => (List.mem_append.mp ht).elim (h t) (h2 t)
theorem ev_catN {n m : Nat} (ha : Ev K r ta ds (LN n)) (hb : Ev K r tb ds (LN m)) (hnm : n + m ≤ 1000) : Ev K r (tOp rCat ta tb) ds (LN (n + m)) := evn_op ha fun x ⟨l1, e1, h1, h2⟩ => ⟨_, hb, fun y ⟨l2, e2, h3, h4⟩ => by
  subst e1; subst e2
  exact fun F H v w o f hv hw Q q => rv_catRL (by rw [upR_len, upR_len]; omega) F H v w o f hv hw Q fun u H2 z ez s rx => q u H2 z ⟨l1 ++ l2, by rw [ez, upR_app], by rw [List.length_append]; omega, h2.app h4⟩ s rx⟩
theorem ev_ln {l : List LT} {n : Nat} (h : Ev K r ta ds (Is (.d (.list (tsD (upR l)))))) (hn : l.length ≤ n) (hb : LBs 5 20 l) : Ev K r ta ds (LN n) := h.imp fun w e => ⟨l, e, hn, hb⟩
def LtX (x : Da) : Prop := ∃ c ∈ Lt, x = .d (.str (S [c]))
def TX (x : Da) : Prop := ∃ t : LT, LB 5 20 t ∧ x = .d (tD (up t))
theorem ev_ltup (ha : Ev K r ta ds LtX) (hb : Ev K r tb ds (Bt (-5) 5)) (hc : Ev K r tc ds (Bt (-20) 20)) : Ev K r (tTup (tCons ta (tCons tb (tCons tc tNil)))) ds TX := evn_tup (ean3 ha hb hc) fun ws ⟨x, y, z, ⟨c, hc, e1⟩, ⟨p, e2, p1, p2⟩, ⟨q, e3, q1, q2⟩, e⟩ => by
  subst e1; subst e2; subst e3; subst e
  exact ⟨[.str (S [c]), .int p, .int q], rfl, by simp, (c, p, q), ⟨hc, p1, p2, q1, q2⟩, rfl⟩
end
section
variable {P : Program} {w w' : World} {K K' : PySem.W.Frag} {mg : Str → Option Value} {base : Heap} {r : Res} {ds : Sl} {ta : TA}
theorem ev_parts {b : Addr} {te0 : TE} {w0 : Wd} {N : Nat → Prop} (hk : ∀ k : Nat, ((wipeD ds [13]).set 13 (some (.d (.int (k : Nat)))))[0]? = some (some (.v (.ref b))) ∧ ((wipeD ds [13]).set 13 (some (.d (.int (k : Nat)))))[1]? = some (some (.d (.str (S w0))))) (hw : LW w0) (h1 : 1 ≤ w0.length) (h2 : w0.length ≤ 100)
    (ht : Ev K (some b) te0 ds (fun w => ∃ n : Nat, w = .d (.int (n : Nat)) ∧ N n)) (hm : ∀ n, N n → n ≤ 100) : Ev K (some b) (tLc (iRng1 (tCons te0 tNil)) (gName 13) tYes (tCall (sp_law_part K) [] E0 (tCons (tVar 0) (tCons (tVar 1) tNil))) [13]) ds (fun w => ∃ l : List LT, w = .d (.list (tsD (upR l))) ∧ LBs 3 4 l ∧ N l.length) :=
  evn_lcR ht fun n hn => by
    refine (evn_rangemap (ds' := fun k => (wipeD ds [13]).set 13 (some (.d (.int (k : Nat))))) n (Nat.le_trans (hm n hn) (by decide)) (fun t : LT => tD (up t)) (LB 3 4) (fun k => eg_name (by decide)) fun k => ec_law_part (ea_cons (ev_var (hk k).1) (ea_one (ev_var (hk k).2))) hw h1 h2).imp fun w ⟨l, e1, e2, e3⟩ => ⟨l, ?_, e2, by rw [e1]; exact hn⟩
    rw [e3]
    unfold tsD upR
    rw [List.map_map]
    rfl
def sp_law_nested (K : PySem.W.Frag) : Sp := spB K (fun w : Wd => [.d (.str (S w))]) (fun w => LW w ∧ 2 ≤ w.length ∧ w.length ≤ 100) fun _ => LN 10
-- slots: 0=_law_bag_here 1=_law_letters 2=_law_kind 3=_law_some 4=_law_rest 5=_law_back 6=_law_ends 7=_law_by 8=_law_over 9=_law_mate 10=_law_more_here 11=_law_at 12=_law_strand 13=_law_step 14=_law_sign
theorem sc_law_nested : FnScope ["_law_bag_here", "_law_letters", "_law_kind", "_law_some", "_law_rest", "_law_back", "_law_ends", "_law_by", "_law_over", "_law_mate", "_law_more_here", "_law_at", "_law_strand", "_law_step", "_law_sign"] ["_law_bag_here", "_law_letters"] (defScope s_law_nested) := C8.fnScope_by (by decide +kernel)
theorem c_law_nested (T : Tx K mg w) : Cal P w K mg base 4 "_law_nested" ["_law_bag_here", "_law_letters"] (sp_law_nested K) := by
  refine calG T.e_law_nested T.g_law_nested sc_law_nested (fun _ _ _ _ _ _ us hl => match us, hl with | [_, _], _ => rfl) (fun _ _ => rfl) fun f cdv A outer s H E hr => ?_
  refine ⟨_, (pss_cons (ps_set (i := 2) sc_law_nested.nd rfl (Or.inl rfl) (pe_c (c_law_take T) hr (by decide) (by rfl) (pa_cons (pv 0) (pa_cons pe_int pa_nil))))
    (pss_cons (ps_setLc (i := 3) rfl sc_law_nested.nd rfl rfl (sw_true rfl rfl rfl (by decide +kernel)) (te := (tCall (sp_law_part K) [] E0 (tCons (tVar 0) (tCons (tVar 1) tNil)))) (own := [("_law_step", 13)]) (g := (gName 13)) (tt := tYes) (pi_range1 (by rfl) T.f_range (pa_cons (pe_op op_add pe_int (pe_c (c_law_take T) hr (by decide) (by rfl) (pa_cons (pv 0) (pa_cons pe_int pa_nil)))) pa_nil)) (blkOk_by (own := [("_law_step", 13)]) (N := ["_law_bag_here", "_law_letters", "_law_kind", "_law_some", "_law_rest", "_law_back", "_law_ends", "_law_by", "_law_over", "_law_mate", "_law_more_here", "_law_at", "_law_strand", "_law_step", "_law_sign"]) (sc := defScope s_law_nested) (by decide +kernel)) (fun _ _ _ _ _ => (pg_name (i := 13) sc_law_nested.nd rfl (Or.inl rfl))) (fun _ _ _ _ _ => pts_nil) (fun _ _ _ _ _ => (pe_c (c_law_part T) hr (by decide) (by rfl) (pa_cons (pv 0) (pa_cons (pv 1) pa_nil)))))
    (pss_cons (ps_setLc (i := 4) rfl sc_law_nested.nd rfl rfl (sw_true rfl rfl rfl (by decide +kernel)) (te := (tCall (sp_law_part K) [] E0 (tCons (tVar 0) (tCons (tVar 1) tNil)))) (own := [("_law_step", 13)]) (g := (gName 13)) (tt := tYes) (pi_range1 (by rfl) T.f_range (pa_cons (pe_c (c_law_take T) hr (by decide) (by rfl) (pa_cons (pv 0) (pa_cons pe_int pa_nil))) pa_nil)) (blkOk_by (own := [("_law_step", 13)]) (N := ["_law_bag_here", "_law_letters", "_law_kind", "_law_some", "_law_rest", "_law_back", "_law_ends", "_law_by", "_law_over", "_law_mate", "_law_more_here", "_law_at", "_law_strand", "_law_step", "_law_sign"]) (sc := defScope s_law_nested) (by decide +kernel)) (fun _ _ _ _ _ => (pg_name (i := 13) sc_law_nested.nd rfl (Or.inl rfl))) (fun _ _ _ _ _ => pts_nil) (fun _ _ _ _ _ => (pe_c (c_law_part T) hr (by decide) (by rfl) (pa_cons (pv 0) (pa_cons (pv 1) pa_nil)))))
    (pss_cons (ps_set (i := 5) sc_law_nested.nd rfl (Or.inl rfl) (pe_c (c_law_undoing T) hr (by decide) (by rfl) (pa_cons (pv 0) (pa_cons (pv 3) pa_nil))))
    (pss_cons (ps_if (pt_cmpR op_eq (pv 2) pe_int (nomark _)) (pss_cons (ps_ret (pe_op op_cat (pv 3) (pv 4)))
    pss_nil) pss_nil)
    (pss_cons (ps_if (pt_cmpR op_lt (pv 2) pe_int (nomark _)) (pss_cons (ps_ret (pe_ifExp (pt_cmpR op_eq (pv 2) pe_int (nomark _)) (pe_op op_cat (pe_op op_cat (pv 3) (pv 5)) (pv 4)) (pe_op op_cat (pe_op op_cat (pv 3) (pv 4)) (pv 5))))
    pss_nil) pss_nil)
    (pss_cons (ps_if (pt_cmpR op_eq (pv 2) pe_int (nomark _)) (pss_cons (ps_ret (pe_op op_cat (pe_op op_cat (pe_op op_cat (pv 3) (pv 4)) (pv 5)) (pe_c (c_law_undoing T) hr (by decide) (by rfl) (pa_cons (pv 0) (pa_cons (pv 4) pa_nil)))))
    pss_nil) pss_nil)
    (pss_cons (ps_if (pt_cmpR op_gt (pv 2) pe_int (nomark _)) (pss_cons (ps_set (i := 6) sc_law_nested.nd rfl (Or.inl rfl) (pe_lst (pa_cons (pe_tup (pa_cons (pe_ix ix_str (pv 1) pe_int (fun _ _ => rfl)) (pa_cons pe_int (pa_cons (pe_un un_neg (pe_c (c_law_take T) hr (by decide) (by rfl) (pa_cons (pv 0) (pa_cons pe_int pa_nil)))) pa_nil)))) (pa_cons (pe_tup (pa_cons (pe_upper (pe_ix ix_str (pv 1) pe_int (fun _ _ => rfl))) (pa_cons (pe_op op_sub (pe_c (c_law_take T) hr (by decide) (by rfl) (pa_cons (pv 0) (pa_cons pe_int pa_nil))) pe_int) (pa_cons (pe_op op_sub (pe_c (c_law_take T) hr (by decide) (by rfl) (pa_cons (pv 0) (pa_cons pe_int pa_nil))) pe_int) pa_nil)))) pa_nil))))
    (pss_cons (ps_set (i := 6) sc_law_nested.nd rfl (Or.inl rfl) (pe_op op_cat (pv 6) (pe_lc (te := (tTup (tCons (tVar 14) (tCons (tUn _ (tVar 7)) (tCons (tUn _ (tVar 8)) tNil))))) (own := [("_law_sign", 14), ("_law_by", 7), ("_law_over", 8)]) (g := (gTup K 3 (gCons (gName 14) (gCons (gName 7) (gCons (gName 8) gNil))))) (tt := tYes) rfl sc_law_nested.nd (pi_list (pv 6)) (blkOk_by (own := [("_law_sign", 14), ("_law_by", 7), ("_law_over", 8)]) (N := ["_law_bag_here", "_law_letters", "_law_kind", "_law_some", "_law_rest", "_law_back", "_law_ends", "_law_by", "_law_over", "_law_mate", "_law_more_here", "_law_at", "_law_strand", "_law_step", "_law_sign"]) (sc := defScope s_law_nested) (by decide +kernel)) (fun _ _ _ _ _ => (pg_tup rfl (pgs_cons (pg_name (i := 14) sc_law_nested.nd rfl (Or.inl rfl)) (pgs_cons (pg_name (i := 7) sc_law_nested.nd rfl (Or.inl rfl)) (pgs_cons (pg_name (i := 8) sc_law_nested.nd rfl (Or.inl rfl)) pgs_nil))))) (fun _ _ _ _ _ => pts_nil) (fun _ _ _ _ _ => (pe_tup (pa_cons (pv 14) (pa_cons (pe_un un_neg (pv 7)) (pa_cons (pe_un un_neg (pv 8)) pa_nil))))))))
    (pss_cons (ps_set (i := 9) sc_law_nested.nd rfl (Or.inl rfl) (pe_lst (pa_cons (pe_tup (pa_cons (pe_ix ix_str (pv 1) (pe_un un_neg pe_int) (fun _ _ => rfl)) (pa_cons (pe_c (c_law_take T) hr (by decide) (by rfl) (pa_cons (pv 0) (pa_cons pe_int pa_nil))) (pa_cons pe_int pa_nil)))) pa_nil)))
    (pss_cons (ps_set (i := 10) sc_law_nested.nd rfl (Or.inl rfl) (pe_op op_cat (pe_op op_cat (pv 9) (pe_c (c_law_undoing T) hr (by decide) (by rfl) (pa_cons (pv 0) (pa_cons (pv 6) pa_nil)))) (pe_c (c_law_undoing T) hr (by decide) (by rfl) (pa_cons (pv 0) (pa_cons (pv 9) pa_nil)))))
    (pss_cons (ps_ret (pe_ifExp (pt_cmpR op_eq (pv 2) pe_int (nomark _)) (pv 6) (pe_op op_cat (pv 6) (pv 10))))
    pss_nil))))) pss_nil)
    (pss_cons (ps_set (i := 11) sc_law_nested.nd rfl (Or.inl rfl) (pe_c (c_law_take T) hr (by decide) (by rfl) (pa_cons (pv 0) (pa_cons (pe_callB call_len_seq (by rfl) T.f_len PySem.boot_len (pa_cons (pv 5) pa_nil)) pa_nil))))
    (pss_cons (ps_asg (pe_ix ix_list (pv 5) (pv 11) (fun _ _ => rfl)) (pg_tup rfl (pgs_cons (pg_name (i := 12) sc_law_nested.nd rfl (Or.inl rfl)) (pgs_cons (pg_name (i := 7) sc_law_nested.nd rfl (Or.inl rfl)) (pgs_cons (pg_name (i := 8) sc_law_nested.nd rfl (Or.inl rfl)) pgs_nil)))))
    (pss_cons (ps_asg (pe_ifExp (pt_cmpR op_eq (pv 2) pe_int (nomark _)) (pe_tup (pa_cons (pv 12) (pa_cons (pv 7) (pa_cons (pe_op op_add (pe_op op_add (pv 8) pe_int) (pe_c (c_law_take T) hr (by decide) (by rfl) (pa_cons (pv 0) (pa_cons pe_int pa_nil)))) pa_nil)))) (pe_tup (pa_cons (pv 12) (pa_cons (pe_op op_add (pv 7) pe_int) (pa_cons (pe_op op_sub (pv 8) (pe_c (c_law_take T) hr (by decide) (by rfl) (pa_cons (pv 0) (pa_cons pe_int pa_nil)))) pa_nil))))) (pg_sub (pv 5) (pv 11) set_list))
    (pss_cons (ps_ret (pe_op op_cat (pv 3) (pv 5)))
    pss_nil)))))))))))), ?_⟩
  intro a r F0 H0 D hp R
  dsimp only [nox_K]
  obtain ⟨hr1, hw, h1, h2⟩ := hp
  obtain ⟨b, rfl⟩ := Option.isSome_iff_exists.mp hr1
  have hl : a.length ≤ 100000 := by omega
  refine go_asg (P := Dr 8) (ec_law_take (n := 8) (ea_cons (ev_var rfl) (ea_one ev_int)) (by decide) (by decide)) fun w ⟨kd, ew, hkd⟩ => ?_
  subst ew
  refine go_asg (ev_parts (w0 := a) (N := fun n => 1 ≤ n ∧ n ≤ 3) (fun k => ⟨rfl, rfl⟩) hw (by omega) h2 ?_ (fun n h => by omega)) fun w ⟨ls, ew, hls, hn1⟩ => ?_
  · exact (ev_badd (ev_ival ev_int) ((ec_law_take (n := 3) (ea_cons (ev_var rfl) (ea_one ev_int)) (by decide) (by decide)).imp fun w h => h.bt)).imp fun w ⟨i, e, g1, g2⟩ => ⟨i.toNat, by rw [Int.toNat_of_nonneg (by omega)]; exact e, by omega, by omega⟩
  subst ew
  refine go_asg (ev_parts (w0 := a) (N := fun n => n ≤ 1) (fun k => ⟨rfl, rfl⟩) hw (by omega) h2 ?_ (fun n h => by omega)) fun w ⟨lr, ew, hlr, hn2⟩ => ?_
  · exact (ec_law_take (n := 2) (ea_cons (ev_var rfl) (ea_one ev_int)) (by decide) (by decide)).imp fun w ⟨n, e, g⟩ => ⟨n, e, by omega⟩
  subst ew
  refine go_asgL (i := 5) (ls, 3, 4) (ea_cons (ev_var rfl) (ea_one (ev_var rfl))) ⟨rfl, hls, by show ls.length ≤ 100; omega⟩ fun p xs ⟨lb, hb1, hb2, ex⟩ => ?_
  dsimp only at hb1 hb2
  subst ex
  have Bs5 := hls.mono (show (3 : Int) ≤ 5 by decide) (show (4 : Int) ≤ 20 by decide)
  have Br5 := hlr.mono (show (3 : Int) ≤ 5 by decide) (show (4 : Int) ≤ 20 by decide)
  have Bb5 := hb2.mono (show (3 : Int) ≤ 5 by decide) (show (4 : Int) ≤ 20 by decide)
  apply go_if (b := ((kd : Nat) : Int) == 0)
  · walk_at "et"
  · intro _
    exact go_ret R (P := LN 10) ((ev_catN (n := 3) (m := 1) (ev_ln (ev_var rfl) hn1.2 Bs5) (ev_ln (ev_var rfl) hn2 Br5) (by decide)).imp fun w h => h.mono (by decide)) fun w e => e
  intro _
  apply go_skip
  apply go_if (b := decide (((kd : Nat) : Int) < 3))
  · walk_at "et"
  · intro _
    refine go_retV (P := LN 10) R (i := 5) rfl (evn_if (Pb := IsB (((kd : Nat) : Int) == 1)) ?_ (fun _ => ?_) fun _ => ?_) fun w e => e
    · walk_at "et"
    · exact (ev_catN (n := 6) (m := 1) (ev_catN (n := 3) (m := 3) (ev_ln (ev_var rfl) hn1.2 Bs5) (ev_ln (ev_var rfl) (by omega) Bb5) (by decide)) (ev_ln (ev_var rfl) hn2 Br5) (by decide)).imp fun w h => h.mono (by decide)
    · exact (ev_catN (n := 4) (m := 3) (ev_catN (n := 3) (m := 1) (ev_ln (ev_var rfl) hn1.2 Bs5) (ev_ln (ev_var rfl) hn2 Br5) (by decide)) (ev_ln (ev_var rfl) (by omega) Bb5) (by decide)).imp fun w h => h.mono (by decide)
  intro _
  apply go_skip
  apply go_if (b := ((kd : Nat) : Int) == 3)
  · walk_at "et"
  · intro _
    refine go_retV (P := LN 10) R (i := 5) rfl ?_ fun w e => e
    exact (ev_catN (n := 7) (m := 1) (ev_catN (n := 4) (m := 3) (ev_catN (n := 3) (m := 1) (ev_ln (ev_var rfl) hn1.2 Bs5) (ev_ln (ev_var rfl) hn2 Br5) (by decide)) (ev_ln (ev_var rfl) (by omega) Bb5) (by decide)) ((ec_law_undoing (l := lr) (p := 5) (q := 20) (ea_cons (ev_var rfl) (ea_one (ev_var rfl))) Br5 (by omega)).imp fun w ⟨l, e1, e2, e3⟩ => ⟨l, e3, by omega, e2⟩) (by decide)).imp fun w h => h.mono (by decide)
  intro _
  apply go_skip
  apply go_if (b := decide (5 < ((kd : Nat) : Int)))
  · walk_at "et"
  · intro _
    obtain ⟨c0, hc0, _, m0⟩ := atI_ex (l := a) (i := 0) (by decide) (by omega)
    obtain ⟨c1, hc1, _, m1⟩ := atI_ex (l := a) (i := 1) (by decide) (by omega)
    obtain ⟨cl, hcl⟩ : ∃ c, atI a (-1) = some c := by
      unfold atI ixN
      rw [if_neg (by decide), if_pos (by omega)]
      exact ⟨_, List.getElem?_eq_getElem (by omega)⟩
    have lc1 := lw1 (hw c1 m1)
    apply go_assoc
    refine go_asg (P := LN 2) (evn_lst (ean2 (Pa := TX) (Pb := TX) (ev_ltup ?_ ?_ ?_) (ev_ltup ?_ ?_ ?_)) ?_) fun w ⟨le, ew, hle, hbe⟩ => ?_
    · exact (ev_op (ev_var rfl) ev_int (rv_ixW hl hc0)).imp fun w e => ⟨c0, hw c0 m0, e⟩
    · exact (ev_ival ev_int).imp fun w h => h.mono (by decide) (by decide)
    · exact (ev_bneg ((ec_law_take (n := 7) (ea_cons (ev_var rfl) (ea_one ev_int)) (by decide) (by decide)).imp fun w h => h.bt)).imp fun w h => h.mono (by decide) (by decide)
    · exact (ev_m0 (ev_op (ev_var rfl) ev_int (rv_ixW hl hc1)) (rm_upW lc1 (by simp))).imp fun w e => ⟨PyProof.Rows.up1 c1, up1_lt _ (hw c1 m1), e⟩
    · exact (ev_bsub ((ec_law_take (n := 3) (ea_cons (ev_var rfl) (ea_one ev_int)) (by decide) (by decide)).imp fun w h => h.bt) (ev_ival ev_int)).imp fun w h => h.mono (by decide) (by decide)
    · exact (ev_bsub ((ec_law_take (n := 5) (ea_cons (ev_var rfl) (ea_one ev_int)) (by decide) (by decide)).imp fun w h => h.bt) (ev_ival ev_int)).imp fun w h => h.mono (by decide) (by decide)
    · rintro ws ⟨x, y, ⟨t1, g1, rfl⟩, ⟨t2, g2, rfl⟩, rfl⟩
      refine ⟨[tD (up t1), tD (up t2)], rfl, by simp, [t1, t2], rfl, by simp, fun t ht => ?_⟩
      rcases List.mem_cons.mp ht with e | e
      · rw [e]; exact g1
      · rw [List.mem_singleton.mp e]; exact g2
    subst ew
    apply go_assoc
    refine go_asg (P := LN 4) (ev_catN (n := 2) (m := 2) (ev_ln (ev_var rfl) hle hbe) (ev_ln (l := le.map fun t => (t.1, -t.2.1, -t.2.2)) (ev_is (ev_lcmap (ds' := fun t => (((wipeD _ [14, 7, 8]).set 14 (some (.d (.str (S (up t).1))))).set 7 (some (.d (.int (up t).2.1)))).set 8 (some (.d (.int (up t).2.2)))) (gd := fun t => tD (up t)) (fd := fun t => tD (up (t.1, -t.2.1, -t.2.2))) le ?_ (by omega) (fun c _ => eg_tD (by decide) (by decide) (by decide)) fun t _ => ?_) ?_) (by rw [List.length_map]; exact hle) ?_) (by decide)) fun w ⟨le2, ew, hle2, hbe2⟩ => ?_
    · have : tsD (upR le) = le.map fun t => tD (up t) := by unfold tsD upR; rw [List.map_map]; rfl
      rw [← this]
      exact ei_list (ev_var rfl)
    · refine ev_tD (a := [t.1]) (b := -t.2.1) (c := -t.2.2) (ea_cons (ev_var rfl) (ea_cons (ev_un (ev_var rfl) ru_neg) (ea_one (ev_un (ev_var rfl) ru_neg))))
    · unfold tsD upR
      rw [List.map_map, List.map_map]
      rfl
    · intro t ht
      obtain ⟨x, hx, rfl⟩ := List.mem_map.mp ht
      have := hbe x hx
      exact ⟨this.c, by have := this.p2; show -5 ≤ -x.2.1; omega, by have := this.p1; show -x.2.1 ≤ 5; omega, by have := this.q2; show -20 ≤ -x.2.2; omega, by have := this.q1; show -x.2.2 ≤ 20; omega⟩
    subst ew
    apply go_assoc
    refine go_asg (P := LN 1) (evn_lst (ean1 (Pa := TX) (ev_ltup ?_ ?_ ?_)) ?_) fun w ⟨lm, ew, hlm, hbm⟩ => ?_
    · exact (ev_op (ev_var rfl) (ev_un ev_int ru_neg) (rv_ixW hl hcl)).imp fun w e => ⟨cl, hw cl (atI_mem hcl), e⟩
    · exact ((ec_law_take (n := 3) (ea_cons (ev_var rfl) (ea_one ev_int)) (by decide) (by decide)).imp fun w h => h.bt.mono (by decide) (by decide))
    · exact (ev_ival ev_int).imp fun w h => h.mono (by decide) (by decide)
    · rintro ws ⟨x, ⟨t1, g1, rfl⟩, rfl⟩
      refine ⟨[tD (up t1)], rfl, by simp, [t1], rfl, by simp, fun t ht => ?_⟩
      rw [List.mem_singleton.mp ht]
      exact g1
    subst ew
    apply go_assoc
    refine go_asg (P := LN 6) (ev_catN (n := 5) (m := 1) (ev_catN (n := 1) (m := 4) (ev_ln (ev_var rfl) hlm hbm) ((ec_law_undoing (l := le2) (p := 5) (q := 20) (ea_cons (ev_var rfl) (ea_one (ev_var rfl))) hbe2 (by omega)).imp fun w ⟨l, e1, e2, e3⟩ => ⟨l, e3, by omega, e2⟩) (by decide)) ((ec_law_undoing (l := lm) (p := 5) (q := 20) (ea_cons (ev_var rfl) (ea_one (ev_var rfl))) hbm (by omega)).imp fun w ⟨l, e1, e2, e3⟩ => ⟨l, e3, by omega, e2⟩) (by decide)) fun w ⟨lmo, ew, hlmo, hbmo⟩ => ?_
    subst ew
    apply go_assoc
    refine go_ret R (P := LN 10) (evn_if (Pb := IsB (((kd : Nat) : Int) == 6)) ?_ (fun _ => ?_) fun _ => ?_) fun w e => e
    · walk_at "et"
    · exact (ev_ln (ev_var rfl) hle2 hbe2).imp fun w h => h.mono (by decide)
    · exact ev_catN (n := 4) (m := 6) (ev_ln (ev_var rfl) hle2 hbe2) (ev_ln (ev_var rfl) hlmo hbmo) (by decide)
  intro _
  apply go_skip
  refine go_setVI (i := 5) (P := Dr lb.length) rfl (ec_law_take (n := lb.length) (ea_cons (ev_var rfl) (ea_one (ev_is (ev_cb (ea_one (ev_var rfl)) rc_lenRL) (by rw [upR_len])))) (by omega) (by omega)) fun w ⟨at_, ew, hat⟩ => ⟨_, ew, ?_⟩
  have hx : atI (upR lb) ((at_ : Nat) : Int) = some (up lb[at_]) := by
    rw [atI_nat (by rw [upR_len]; exact hat)]
    simp [upR]
  refine go_unpV (i := 5) (P := Is (.d (tD (up lb[at_])))) rfl (ev_op (ev_var rfl) (ev_var rfl) (rv_ixRL hx)) fun w e => ⟨_, e, ?_⟩
  have ht := hb2 lb[at_] (List.getElem_mem _)
  have htc := ht.c
  have tp1 := ht.p1
  have tp2 := ht.p2
  have tq1 := ht.q1
  have tq2 := ht.q2
  dsimp only [up]
  refine go_putO (i := 5) (j := 11) (n := at_) (P := TX) rfl rfl (by rw [tsD_len, upR_len]; exact hat) (evn_if (Pb := IsB (((kd : Nat) : Int) == 4)) ?_ (fun _ => ev_ltup ?_ ?_ ?_) fun _ => ev_ltup ?_ ?_ ?_) fun w ⟨t', g, ew⟩ => ⟨_, ew, ?_⟩
  · walk_at "et"
  · exact (ev_var rfl).imp fun w e => ⟨_, htc, e⟩
  · exact (ev_ival (ev_var rfl)).imp fun w h => h.mono (by omega) (by omega)
  · exact (ev_badd (ev_badd (ev_ival (ev_var rfl)) (ev_ival ev_int)) ((ec_law_take (n := 3) (ea_cons (ev_var rfl) (ea_one ev_int)) (by decide) (by decide)).imp fun w h => h.bt)).imp fun w h => h.mono (by omega) (by omega)
  · exact (ev_var rfl).imp fun w e => ⟨_, htc, e⟩
  · exact (ev_badd (ev_ival (ev_var rfl)) (ev_ival ev_int)).imp fun w h => h.mono (by omega) (by omega)
  · exact (ev_bsub (ev_ival (ev_var rfl)) ((ec_law_take (n := 8) (ea_cons (ev_var rfl) (ea_one ev_int)) (by decide) (by decide)).imp fun w h => h.bt)).imp fun w h => h.mono (by omega) (by omega)
  have eset : (tsD (upR lb)).set at_ (tD (up t')) = tsD (upR (lb.set at_ t')) := by
    unfold tsD upR
    rw [List.map_set, List.map_set]
  rw [eset]
  refine go_retV (P := LN 10) R (i := 5) rfl ?_ fun w e => e
  refine (ev_catN (n := 3) (m := 3) (ev_ln (ev_var rfl) hn1.2 Bs5) (ev_ln (ev_var rfl) (by rw [List.length_set]; omega) fun t ht => ?_) (by decide)).imp fun w h => h.mono (by decide)
  rcases List.mem_or_eq_of_mem_set ht with e | e
  · exact Bb5 t e
  · rw [e]; exact g
theorem ec_law_nested {w : Wd} {b : Addr} (h : EvA K (some b) ta ds (IsA [.v (.ref b), .d (.str (S w))])) (h1 : LW w) (h2 : 2 ≤ w.length) (h3 : w.length ≤ 100) : Ev K (some b) (tCall (sp_law_nested K) [] E0 ta) ds (LN 10) := ev_callB w h rfl rfl ⟨h1, h2, h3⟩
end
end Kn

set_option Elab.async false
set_option linter.all false
set_option maxRecDepth 100000
set_option maxHeartbeats 4000000
/-! Papers are drawn. -/
namespace Kn
open PySem PySem.Spec PyProof.Rows L2
local macro_rules | `(tactic| walk_at "sd") => `(tactic| first | trivial | assumption | walk_at "sz")
local macro_rules | `(tactic| walk_at "sz") => `(tactic| first | assumption | decide | omega | rfl | (simp only [List.length_append, List.length_map, List.length_cons, List.length_nil, List.length_reverse]; omega))
local macro_rules | `(tactic| walk_at "rv") => `(tactic| with_reducible first
  | exact rv_ix0 | exact rv_ix1 | exact rv_ix2 | exact rv_eqI | exact rv_neI | exact rv_eqE | exact rv_neE | exact rv_eqW | exact rv_neW | exact rv_eqS | exact rv_neS
  | exact rv_int0 | exact rv_bl0
  | exact rv_ixT0 | exact rv_ixT1
  | exact rv_ixRT (by assumption) | exact rv_ixRL (by assumption) | (apply rv_ixW; walk_at "sz"; assumption)
  | (refine rv_addW ?_; walk_at "sz")
  | (refine rv_catRT ?_; walk_at "sz") | (refine rv_catRL ?_; walk_at "sz")
  | (refine rv_intC ?_; assumption) | (apply rv_mulW; walk_at "sz"; walk_at "sz"; walk_at "sz")
  | exact rv_inW | exact rv_inSign | exact rv_isN | exact rv_notN | exact rv_notBl
  | exact rv_ixT (by with_unfolding_all rfl) | exact rv_ixL (by with_unfolding_all rfl)
  | exact rv_ixT (by assumption) | exact rv_ixL (by assumption)
  | (refine rv_catA ?_; walk_at "sz") | (refine rv_cat ?_; walk_at "sz"))
local macro_rules | `(tactic| walk_at "rs") => `(tactic| with_reducible first
  | exact rs_rT | exact rs_rL
  | (refine rs_w ?_ ?_; walk_at "sz"; (with_unfolding_all first | exact Nat.zero_le _ | exact HT.sIx_le _ _ (Nat.zero_le _) _ | assumption))
  | exact rs_tup | exact rs_list
  | (refine rs_str ?_; walk_at "sz"))
local macro_rules | `(tactic| walk_at "rc") => `(tactic| with_reducible first
  | exact rc_lenD3 | exact rc_lenRT | exact rc_lenRL | exact rc_lenT | exact rc_lenL | (refine rc_lenW ?_; walk_at "sz") | (refine rc_lenS ?_; walk_at "sz")
  | exact rc_isi (kit_int _) | exact rc_isi (kit_bool _) | exact rc_isi (kit_str _) | exact rc_isi (kit_tup _)
  | exact rc_max | exact rc_min | exact rc_int | exact rc_abs | exact rc_all | exact rc_tupL | exact rc_tupT | exact rc_list | exact rc_listT | (refine rc_listW ?_; walk_at "sz"))
local macro_rules | `(tactic| walk_at "rm") => `(tactic| first | (with_reducible apply rm_lowW; assumption; walk_at "sz") | (with_reducible apply rm_upW; assumption; walk_at "sz"))
local macro_rules | `(tactic| walk_at "ea") => `(tactic| first
  | with_reducible exact ea_nil
  | ((with_reducible apply ea_cons); walk_at "ev"; walk_at "ea"))
local macro_rules | `(tactic| walk_at "eo") => `(tactic| first
  | with_reducible exact eo_none
  | ((with_reducible apply eo_some); walk_at "ev"))
local macro_rules | `(tactic| walk_at "et") => `(tactic| first
  | ((with_reducible apply et_test); walk_at "ev")
  | ((with_reducible apply et_B); walk_at "ev")
  | ((with_reducible apply et_not); walk_at "et")
  | ((with_reducible apply et_and); walk_at "et"; intro _; walk_at "et")
  | ((with_reducible apply et_or); walk_at "et"; intro _; walk_at "et"))
local macro_rules | `(tactic| walk_at "ev") => `(tactic| first
  | with_reducible exact ev_int | with_reducible exact ev_str | with_reducible exact ev_bl | with_reducible exact ev_non | with_reducible exact ev_val
  | ((with_reducible apply ev_var); exact rfl)
  | ((with_reducible apply ev_op); walk_at "ev"; walk_at "ev"; walk_at "rv")
  | ((with_reducible apply ev_un); walk_at "ev"; exact ru_neg)
  | ((with_reducible apply ev_and); walk_at "ev"; intro _; walk_at "ev")
  | ((with_reducible apply ev_or); walk_at "ev"; intro _; walk_at "ev")
  | ((with_reducible apply ev_not); walk_at "ev")
  | ((with_reducible apply ev_sl); walk_at "ev"; walk_at "eo"; walk_at "eo"; walk_at "rs")
  | ((with_reducible apply ev_chain); walk_at "ev"; walk_at "ev"; walk_at "rv"; (intro _; walk_at "ev"); (intro _; walk_at "rv"))
  | walk_at "ec"
  | ((with_reducible apply ev_if); walk_at "et"; (intro _; walk_at "ev"); (intro _; walk_at "ev"))
  | ((with_reducible apply ev_m0); walk_at "ev"; walk_at "rm")
  | ((with_reducible apply ev_cb); walk_at "ea"; walk_at "rc")
  | ((with_reducible apply ev_tD); walk_at "ea")
  | with_reducible exact ev_rT0 | with_reducible exact ev_rL0
  | ((with_reducible apply ev_rT1); walk_at "ea") | ((with_reducible apply ev_rT2); walk_at "ea") | ((with_reducible apply ev_rT3); walk_at "ea")
  | ((with_reducible apply ev_rL1); walk_at "ea") | ((with_reducible apply ev_rL2); walk_at "ea") | ((with_reducible apply ev_rL3); walk_at "ea") | ((with_reducible apply ev_rL4); walk_at "ea")
  | ((with_reducible apply ev_revW); walk_at "ev"; walk_at "sz")
  | ((with_reducible apply ev_revL); walk_at "ev")
  | ((with_reducible apply ev_revT); walk_at "ev"))
local macro_rules | `(tactic| walk_at "ret") => `(tactic| (apply go_retE; assumption; exact rfl; walk_at "ev"))
local macro_rules | `(tactic| walk_at "if") => `(tactic| (apply go_if; walk_at "et"))
local macro_rules | `(tactic| walk_at "set") => `(tactic| (apply go_set; walk_at "ev"))
local macro_rules | `(tactic| walk_at "eg") => `(tactic| first | exact eg_name (by decide) | exact eg_tD (by decide) (by decide) (by decide))
local macro_rules | `(tactic| walk_at "ec") => `(tactic| first | ((with_reducible apply ec_law_back_word); walk_at "ea"; walk_at "sd"; walk_at "sd"))
structure BlkP (t : Tr) : Prop where
  w : LW t.1
  l1 : 1 ≤ t.1.length
  l2 : t.1.length ≤ 12
  p1 : -8 ≤ t.2.1
  p2 : t.2.1 ≤ 8
  q1 : -20 ≤ t.2.2
  q2 : t.2.2 ≤ 20
def HOB (B : Int) (h : HS) : Prop := h.2.length + 1 = h.1.sz ∧ ∀ i ∈ h.2, -B ≤ i ∧ i ≤ B
abbrev HOk := HOB 100
theorem HOB.mono {B C : Int} {h : HS} (g : HOB B h) (hc : B ≤ C) : HOB C h := ⟨g.1, fun i hi => by have := g.2 i hi; omega⟩
def nsH (l : List HS) : Nat := (l.filter fun h => decide (h.1 = .split)).length
structure PapOk (n m c : Nat) (row : Row) (hs : List HS) : Prop where
  blk : ∀ t ∈ row, BlkP t
  len : row.length ≤ n
  hlen : hs.length ≤ m
  pos : hs ≠ []
  done : srun row hs = some []
  hok : ∀ h ∈ hs, HOB (100 + n) h
  spl : nsH hs ≤ c
theorem nsH_app (a b : List HS) : nsH (a ++ b) = nsH a + nsH b := by unfold nsH; rw [List.filter_append, List.length_append]
theorem nsH_cons (h : HS) (b : List HS) : nsH (h :: b) = (if h.1 = .split then 1 else 0) + nsH b := by
  unfold nsH
  rw [List.filter_cons]
  by_cases e : h.1 = .split
  · rw [if_pos e, if_pos (decide_eq_true e), List.length_cons]; omega
  · rw [if_neg e, if_neg (by rw [decide_eq_false e]; exact Bool.false_ne_true)]; omega
theorem nsH_nil : nsH [] = 0 := rfl
theorem nsH_undos (i : Int) (n : Nat) : nsH (undos i n) = 0 := by
  induction n with
  | zero => rfl
  | succ n ih =>
    rw [undos_succ, nsH_cons, ih]
    rfl
theorem nsH_melt (i : Int) (n : Nat) : nsH (melt i n) = 0 := by
  rw [melt_eq, nsH_app, nsH_undos]
  rfl
theorem undos_len (i : Int) (n : Nat) : (undos i n).length = n := by unfold undos; rw [List.length_map, List.length_reverse, List.length_range]
theorem melt_len (i : Int) (n : Nat) : (melt i n).length = n + 1 := by rw [melt_eq, List.length_append, undos_len]; rfl
def HsOk (l : List HS) : Prop := ∀ h ∈ l, HOk h
theorem HsOk.app {a b : List HS} (ha : HsOk a) (hb : HsOk b) : HsOk (a ++ b) := fun h hm => (List.mem_append.mp hm).elim (ha h) (hb h)
theorem HsOk.cons {a : HS} {b : List HS} (ha : HOk a) (hb : HsOk b) : HsOk (a :: b) := fun h hm => by
  rcases List.mem_cons.mp hm with e | e
  · rw [e]; exact ha
  · exact hb h e
theorem HsOk.nil : HsOk [] := fun h hm => nomatch hm
theorem hok2 {k : Kd} {i : Int} (hk : k.sz = 2) (h1 : -100 ≤ i) (h2 : i ≤ 100) : HOk (k, [i]) := ⟨hk.symm, fun j hj => by rw [List.mem_singleton.mp hj]; exact ⟨h1, h2⟩⟩
theorem hok3 {k : Kd} {i j : Int} (hk : k.sz = 3) (h1 : -100 ≤ i) (h2 : i ≤ 100) (h3 : -100 ≤ j) (h4 : j ≤ 100) : HOk (k, [i, j]) := ⟨hk.symm, fun l hl => by
  rcases List.mem_cons.mp hl with e | e
  · rw [e]; exact ⟨h1, h2⟩
  · rw [List.mem_singleton.mp e]; exact ⟨h3, h4⟩⟩
theorem hok4 {i j l : Int} (h1 : -100 ≤ i) (h2 : i ≤ 100) (h3 : -100 ≤ j) (h4 : j ≤ 100) (h5 : -100 ≤ l) (h6 : l ≤ 100) : HOk (.split, [i, j, l]) := ⟨rfl, fun z hz => by
  rcases List.mem_cons.mp hz with e | e
  · rw [e]; exact ⟨h1, h2⟩
  · rcases List.mem_cons.mp e with e | e
    · rw [e]; exact ⟨h3, h4⟩
    · rw [List.mem_singleton.mp e]; exact ⟨h5, h6⟩⟩
theorem undos_ok {i : Int} {n : Nat} (h1 : -100 ≤ i) (h2 : i ≤ 100) (hn : n ≤ 100) : HsOk (undos i n) := fun h hm => by
  unfold undos at hm
  obtain ⟨k, hk, rfl⟩ := List.mem_map.mp hm
  rw [List.mem_reverse, List.mem_range] at hk
  exact hok3 rfl h1 h2 (by omega) (by omega)
theorem melt_ok {i : Int} {n : Nat} (h1 : -100 ≤ i) (h2 : i ≤ 100) (hn : n ≤ 100) : HsOk (melt i n) := by
  rw [melt_eq]
  exact (undos_ok h1 h2 hn).app (HsOk.cons (hok2 rfl h1 h2) HsOk.nil)
def RBk (l : Row) : Prop := ∀ t ∈ l, BlkP t
theorem RBk.cons {a : Tr} {b : Row} (ha : BlkP a) (hb : RBk b) : RBk (a :: b) := fun h hm => by
  rcases List.mem_cons.mp hm with e | e
  · rw [e]; exact ha
  · exact hb h e
theorem RBk.nil : RBk [] := fun h hm => nomatch hm
theorem bk {w : Wd} {p q : Int} (hw : LW w) (h1 : 1 ≤ w.length) (h2 : w.length ≤ 12) (h3 : -8 ≤ p) (h4 : p ≤ 8) (h5 : -20 ≤ q) (h6 : q ≤ 20) : BlkP (w, p, q) := ⟨hw, h1, h2, h3, h4, h5, h6⟩
theorem paper_ok {k : Nat} {x y : Wd} {p q a b : Int} (hx : LW x) (hy : LW y) (x1 : 1 ≤ x.length) (x2 : x.length ≤ 3) (y1 : 1 ≤ y.length) (y2 : y.length ≤ 3) (p1 : -4 ≤ p) (p2 : p ≤ 4) (q1 : -10 ≤ q) (q2 : q ≤ 10) (a1 : -10 ≤ a) (a2 : a ≤ 10) (b1 : -10 ≤ b) (b2 : b ≤ 10) :
    PapOk 4 20 1 (paperR k x y p q) (paperS k x.length y.length a b) := by
  have ux := und_lw hx
  have uy := und_lw hy
  have ul := und_length x
  have vl := und_length y
  have xx := hx.app hx
  have xy := hx.app hy
  have yx := hy.app hx
  have xyu := xy.app ux
  have xuy := (hx.app ux).app hy
  have l1 : (x ++ x).length = x.length + x.length := List.length_append
  have l2 : (x ++ y).length = x.length + y.length := List.length_append
  have l3 : (y ++ x).length = y.length + x.length := List.length_append
  have l4 : (x ++ y ++ und x).length = x.length + y.length + x.length := by rw [List.length_append, List.length_append, ul]
  have l5 : (x ++ und x ++ y).length = x.length + x.length + y.length := by rw [List.length_append, List.length_append, ul]
  have m0 := fun (i : Int) (h1 : -100 ≤ i) (h2 : i ≤ 100) => melt_ok (n := x.length) h1 h2 (by omega)
  have m1 := fun (i : Int) (h1 : -100 ≤ i) (h2 : i ≤ 100) => melt_ok (n := y.length) h1 h2 (by omega)
  have key : HsOk (paperS k x.length y.length a b) := by
    match k with
    | 0 => exact HsOk.cons (hok2 (k := .join) rfl (by decide) (by decide)) (HsOk.cons (hok2 (k := .out) rfl (by decide) (by decide)) (HsOk.nil))
    | 1 => exact HsOk.cons (hok2 (k := .turn) rfl (by decide) (by decide)) (HsOk.cons (hok2 (k := .join) rfl (by decide) (by decide)) (HsOk.cons (hok2 (k := .out) rfl (by decide) (by decide)) (HsOk.nil)))
    | 2 => exact HsOk.cons (hok3 (k := .root) rfl (by decide) (by decide) (by omega) (by omega)) (HsOk.cons (hok2 (k := .turn) rfl (by decide) (by decide)) (HsOk.cons (hok2 (k := .join) rfl (by decide) (by decide)) (HsOk.cons (hok2 (k := .out) rfl (by decide) (by decide)) (HsOk.nil))))
    | 3 => exact HsOk.cons (hok3 (k := .opn) rfl (by decide) (by decide) (by omega) (by omega)) (HsOk.cons (hok2 (k := .glue) rfl (by decide) (by decide)) (HsOk.app (m0 2 (by decide) (by decide)) (HsOk.cons (hok2 (k := .join) rfl (by decide) (by decide)) (HsOk.cons (hok2 (k := .out) rfl (by decide) (by decide)) (HsOk.cons (hok2 (k := .glue) rfl (by decide) (by decide)) (HsOk.app (m0 0 (by decide) (by decide)) HsOk.nil))))))
    | 4 => exact HsOk.cons (hok3 (k := .back) rfl (by decide) (by decide) (by omega) (by omega)) (HsOk.cons (hok2 (k := .glue) rfl (by decide) (by decide)) (HsOk.app (m0 1 (by decide) (by decide)) (HsOk.cons (hok2 (k := .join) rfl (by decide) (by decide)) (HsOk.cons (hok2 (k := .out) rfl (by decide) (by decide)) (HsOk.nil)))))
    | 5 => exact HsOk.cons (hok4 (by decide) (by decide) (by omega) (by omega) (by omega) (by omega)) (HsOk.cons (hok2 (k := .join) rfl (by decide) (by decide)) (HsOk.cons (hok2 (k := .join) rfl (by decide) (by decide)) (HsOk.cons (hok2 (k := .join) rfl (by decide) (by decide)) (HsOk.cons (hok2 (k := .out) rfl (by decide) (by decide)) (HsOk.nil)))))
    | 6 => exact HsOk.cons (hok3 (k := .cut) rfl (by decide) (by decide) (by omega) (by omega)) (HsOk.cons (hok2 (k := .glue) rfl (by decide) (by decide)) (HsOk.app (m1 1 (by decide) (by decide)) (HsOk.cons (hok2 (k := .glue) rfl (by decide) (by decide)) (HsOk.app (m0 0 (by decide) (by decide)) HsOk.nil))))
    | k + 7 => exact HsOk.app (undos_ok (by decide) (by decide) (by omega)) (HsOk.cons (hok2 (k := .join) rfl (by decide) (by decide)) (HsOk.cons (hok2 (k := .out) rfl (by decide) (by decide)) (HsOk.nil)))
  refine ⟨?_, ?_, ?_, ?_, paper_done hx hy x1 y1, fun h hm => (key h hm).mono (by decide), ?_⟩
  · match k with
    | 0 => exact RBk.cons (bk hx (by omega) (by omega) (by omega) (by omega) (by omega) (by omega)) (RBk.cons (bk hx (by omega) (by omega) (by omega) (by omega) (by omega) (by omega)) (RBk.nil))
    | 1 => exact RBk.cons (bk hx (by omega) (by omega) (by omega) (by omega) (by omega) (by omega)) (RBk.cons (bk ux (by omega) (by omega) (by omega) (by omega) (by omega) (by omega)) (RBk.nil))
    | 2 => exact RBk.cons (bk xx (by omega) (by omega) (by omega) (by omega) (by omega) (by omega)) (RBk.cons (bk ux (by omega) (by omega) (by omega) (by omega) (by omega) (by omega)) (RBk.nil))
    | 3 => exact RBk.cons (bk xyu (by omega) (by omega) (by omega) (by omega) (by omega) (by omega)) (RBk.cons (bk hx (by omega) (by omega) (by omega) (by omega) (by omega) (by omega)) (RBk.cons (bk hy (by omega) (by omega) (by omega) (by omega) (by omega) (by omega)) (RBk.cons (bk ux (by omega) (by omega) (by omega) (by omega) (by omega) (by omega)) (RBk.nil))))
    | 4 => exact RBk.cons (bk hx (by omega) (by omega) (by omega) (by omega) (by omega) (by omega)) (RBk.cons (bk yx (by omega) (by omega) (by omega) (by omega) (by omega) (by omega)) (RBk.cons (bk ux (by omega) (by omega) (by omega) (by omega) (by omega) (by omega)) (RBk.cons (bk xy (by omega) (by omega) (by omega) (by omega) (by omega) (by omega)) (RBk.nil))))
    | 5 => exact RBk.cons (bk hx (by omega) (by omega) (by omega) (by omega) (by omega) (by omega)) (RBk.cons (bk hx (by omega) (by omega) (by omega) (by omega) (by omega) (by omega)) (RBk.cons (bk hx (by omega) (by omega) (by omega) (by omega) (by omega) (by omega)) (RBk.nil)))
    | 6 => exact RBk.cons (bk xy (by omega) (by omega) (by omega) (by omega) (by omega) (by omega)) (RBk.cons (bk uy (by omega) (by omega) (by omega) (by omega) (by omega) (by omega)) (RBk.cons (bk ux (by omega) (by omega) (by omega) (by omega) (by omega) (by omega)) (RBk.nil)))
    | k + 7 => exact RBk.cons (bk xuy (by omega) (by omega) (by omega) (by omega) (by omega) (by omega)) (RBk.cons (bk hy (by omega) (by omega) (by omega) (by omega) (by omega) (by omega)) (RBk.nil))
  · match k with
    | 0 => exact Nat.le_of_ble_eq_true rfl
    | 1 => exact Nat.le_of_ble_eq_true rfl
    | 2 => exact Nat.le_of_ble_eq_true rfl
    | 3 => exact Nat.le_of_ble_eq_true rfl
    | 4 => exact Nat.le_of_ble_eq_true rfl
    | 5 => exact Nat.le_of_ble_eq_true rfl
    | 6 => exact Nat.le_of_ble_eq_true rfl
    | k + 7 => exact Nat.le_of_ble_eq_true rfl
  · match k with
    | 0 => exact Nat.le_of_ble_eq_true rfl
    | 1 => exact Nat.le_of_ble_eq_true rfl
    | 2 => exact Nat.le_of_ble_eq_true rfl
    | 3 => simp only [paperS, List.length_append, List.length_cons, List.length_nil, melt_len, undos_len]; omega
    | 4 => simp only [paperS, List.length_append, List.length_cons, List.length_nil, melt_len, undos_len]; omega
    | 5 => exact Nat.le_of_ble_eq_true rfl
    | 6 => simp only [paperS, List.length_append, List.length_cons, List.length_nil, melt_len, undos_len]; omega
    | k + 7 => simp only [paperS, List.length_append, List.length_cons, List.length_nil, melt_len, undos_len]; omega
  · match k with
    | 0 => exact fun h => nomatch h
    | 1 => exact fun h => nomatch h
    | 2 => exact fun h => nomatch h
    | 3 => exact fun h => nomatch h
    | 4 => exact fun h => nomatch h
    | 5 => exact fun h => nomatch h
    | 6 => exact fun h => nomatch h
    | k + 7 => exact fun h => by have := congrArg List.length h; simp [paperS] at this
  · match k with
    | 0 => simp [paperS, nsH_app, nsH_cons, nsH_nil, nsH_melt, nsH_undos]
    | 1 => simp [paperS, nsH_app, nsH_cons, nsH_nil, nsH_melt, nsH_undos]
    | 2 => simp [paperS, nsH_app, nsH_cons, nsH_nil, nsH_melt, nsH_undos]
    | 3 => simp [paperS, nsH_app, nsH_cons, nsH_nil, nsH_melt, nsH_undos]
    | 4 => simp [paperS, nsH_app, nsH_cons, nsH_nil, nsH_melt, nsH_undos]
    | 5 => simp [paperS, nsH_app, nsH_cons, nsH_nil, nsH_melt, nsH_undos]
    | 6 => simp [paperS, nsH_app, nsH_cons, nsH_nil, nsH_melt, nsH_undos]
    | k + 7 => simp [paperS, nsH_app, nsH_cons, nsH_nil, nsH_melt, nsH_undos]
section
variable {K K' : PySem.W.Frag} {r : Res} {ds : Sl} {P : Da → Prop} {ta tb tc td te te0 : TE} {tt : TT}
theorem ev_catH {l1 l2 : List HS} (ha : Ev K r ta ds (Is (.d (.list (hsD l1))))) (hb : Ev K r tb ds (Is (.d (.list (hsD l2))))) (h : l1.length + l2.length ≤ 1000) : Ev K r (tOp rCat ta tb) ds (Is (.d (.list (hsD (l1 ++ l2))))) := by
  rw [hsD_app]
  exact ev_op ha hb (rv_cat (by unfold hsD; rw [List.length_map, List.length_map]; omega))
theorem ev_h1 {h : HS} (ha : Ev K r ta ds (Is (.d (hD h)))) : Ev K r (tLst (tCons ta tNil)) ds (Is (.d (.list (hsD [h])))) := ev_lst (xs := [hD h]) (ea_one ha) (by simp)
theorem ev_h2 {h h2 : HS} (ha : Ev K r ta ds (Is (.d (hD h)))) (hb : Ev K r tb ds (Is (.d (hD h2)))) : Ev K r (tLst (tCons ta (tCons tb tNil))) ds (Is (.d (.list (hsD [h, h2])))) := ev_lst (xs := [hD h, hD h2]) (ea_cons ha (ea_one hb)) (by simp)
theorem ev_h3 {h h2 h3 : HS} (ha : Ev K r ta ds (Is (.d (hD h)))) (hb : Ev K r tb ds (Is (.d (hD h2)))) (hc : Ev K r tc ds (Is (.d (hD h3)))) : Ev K r (tLst (tCons ta (tCons tb (tCons tc tNil)))) ds (Is (.d (.list (hsD [h, h2, h3])))) := ev_lst (xs := [hD h, hD h2, hD h3]) (ea_cons ha (ea_cons hb (ea_one hc))) (by simp)
theorem ev_h4 {h h2 h3 h4 : HS} (ha : Ev K r ta ds (Is (.d (hD h)))) (hb : Ev K r tb ds (Is (.d (hD h2)))) (hc : Ev K r tc ds (Is (.d (hD h3)))) (hd : Ev K r td ds (Is (.d (hD h4)))) : Ev K r (tLst (tCons ta (tCons tb (tCons tc (tCons td tNil))))) ds (Is (.d (.list (hsD [h, h2, h3, h4])))) := ev_lst (xs := [hD h, hD h2, hD h3, hD h4]) (ea_cons ha (ea_cons hb (ea_cons hc (ea_one hd)))) (by simp)
theorem ev_pap {row : Row} {hs : List HS} (ha : Ev K r ta ds (Is (.d (.list (tsD row))))) (hb : Ev K r tb ds (Is (.d (.list (hsD hs))))) : Ev K r (tTup (tCons ta (tCons tb tNil))) ds (Is (.d (.tuple [.list (tsD row), .list (hsD hs)]))) := ev_tup (xs := [.list (tsD row), .list (hsD hs)]) (ea_cons ha (ea_one hb)) (by simp)
theorem ean4 {Pa Pb Pc Pd : Da → Prop} (ha : Ev K r ta ds Pa) (hb : Ev K r tb ds Pb) (hc : Ev K r tc ds Pc) (hd : Ev K r td ds Pd) : EvA K r (tCons ta (tCons tb (tCons tc (tCons td tNil)))) ds (fun ws => ∃ x y z u, Pa x ∧ Pb y ∧ Pc z ∧ Pd u ∧ ws = [x, y, z, u]) := ean_cons ha fun x px => ⟨_, ean3 hb hc hd, fun ys ⟨y, z, u, py, pz, pu, e⟩ => ⟨x, y, z, u, px, py, pz, pu, by rw [e]⟩⟩
end
theorem cutP_init (l : List PyData) (x : PyData) : cutP (l ++ [x]) none (some (-1)) = l := by
  unfold cutP
  rw [List.length_append, List.length_singleton]
  show ((l ++ [x]).drop 0).take ((-1 + ((l.length + 1 : Nat) : Int)).toNat - 0) = l
  rw [show (-1 + ((l.length + 1 : Nat) : Int)).toNat - 0 = l.length by omega]
  simp
/-- a row and steps that lead it to nothing -/
def PapX (n m c : Nat) (w : Da) : Prop := ∃ row hs, w = .d (.tuple [.list (tsD row), .list (hsD hs)]) ∧ PapOk n m c row hs
section
variable {P : Program} {w w' : World} {K K' : PySem.W.Frag} {mg : Str → Option Value} {base : Heap} {r : Res} {ds : Sl} {ta : TA}
def sp_law_paper (K : PySem.W.Frag) : Sp := spB K (fun _ : Unit => []) (fun _ => True) fun _ => PapX 4 20 1
-- slots: 0=_law_bag_here 1=_law_kind 2=_law_x 3=_law_y 4=_law_by 5=_law_over 6=_law_p 7=_law_q 8=_law_u 9=_law_v 10=_law_steps
theorem sc_law_paper : FnScope ["_law_bag_here", "_law_kind", "_law_x", "_law_y", "_law_by", "_law_over", "_law_p", "_law_q", "_law_u", "_law_v", "_law_steps"] ["_law_bag_here"] (defScope s_law_paper) := C8.fnScope_by (by decide +kernel)
theorem c_law_paper (T : Tx K mg w) : Cal P w K mg base 4 "_law_paper" ["_law_bag_here"] (sp_law_paper K) := by
  refine calG T.e_law_paper T.g_law_paper sc_law_paper (fun _ _ _ _ _ _ us hl => match us, hl with | [_], _ => rfl) (fun _ _ => rfl) fun f cdv A outer s H E hr => ?_
  refine ⟨_, (pss_cons (ps_par3 (i := 1) (j := 2) (l := 3) rfl sc_law_paper.nd rfl rfl rfl (by decide) (by decide) (by decide) rfl rfl rfl (pa_cons (pe_c (c_law_take T) hr (by decide) (by rfl) (pa_cons (pv 0) (pa_cons pe_int pa_nil))) (pa_cons (pe_c (c_law_short_word T) hr (by decide) (by rfl) (pa_cons (pv 0) pa_nil)) (pa_cons (pe_c (c_law_short_word T) hr (by decide) (by rfl) (pa_cons (pv 0) pa_nil)) pa_nil))) (by rfl))
    (pss_cons (ps_par (i := 4) (j := 5) rfl sc_law_paper.nd rfl rfl (by decide) rfl rfl (pa_cons (pe_op op_sub (pe_c (c_law_take T) hr (by decide) (by rfl) (pa_cons (pv 0) (pa_cons pe_int pa_nil))) pe_int) (pa_cons (pe_op op_sub (pe_c (c_law_take T) hr (by decide) (by rfl) (pa_cons (pv 0) (pa_cons pe_int pa_nil))) pe_int) pa_nil)) (by rfl))
    (pss_cons (ps_asg (pe_tup (pa_cons (pe_callB call_len_str (by rfl) T.f_len PySem.boot_len (pa_cons (pv 2) pa_nil)) (pa_cons (pe_callB call_len_str (by rfl) T.f_len PySem.boot_len (pa_cons (pv 3) pa_nil)) (pa_cons (pe_c (c_law_back_word T) hr (by decide) (by rfl) (pa_cons (pv 2) pa_nil)) (pa_cons (pe_c (c_law_back_word T) hr (by decide) (by rfl) (pa_cons (pv 3) pa_nil)) pa_nil))))) (pg_tup rfl (pgs_cons (pg_name (i := 6) sc_law_paper.nd rfl (Or.inl rfl)) (pgs_cons (pg_name (i := 7) sc_law_paper.nd rfl (Or.inl rfl)) (pgs_cons (pg_name (i := 8) sc_law_paper.nd rfl (Or.inl rfl)) (pgs_cons (pg_name (i := 9) sc_law_paper.nd rfl (Or.inl rfl)) pgs_nil))))))
    (pss_cons (ps_if (pt_cmpR op_eq (pv 1) pe_int (nomark _)) (pss_cons (ps_ret (pe_tup (pa_cons (pe_lst (pa_cons (pe_tup (pa_cons (pv 2) (pa_cons (pv 4) (pa_cons (pv 5) pa_nil)))) (pa_cons (pe_tup (pa_cons (pv 2) (pa_cons (pe_un un_neg (pv 4)) (pa_cons (pe_un un_neg (pv 5)) pa_nil)))) pa_nil))) (pa_cons (pe_lst (pa_cons (pe_tup (pa_cons pe_str (pa_cons pe_int pa_nil))) (pa_cons (pe_tup (pa_cons pe_str (pa_cons pe_int pa_nil))) pa_nil))) pa_nil))))
    pss_nil) pss_nil)
    (pss_cons (ps_if (pt_cmpR op_eq (pv 1) pe_int (nomark _)) (pss_cons (ps_ret (pe_tup (pa_cons (pe_lst (pa_cons (pe_tup (pa_cons (pv 2) (pa_cons (pv 4) (pa_cons (pv 5) pa_nil)))) (pa_cons (pe_tup (pa_cons (pv 8) (pa_cons (pv 4) (pa_cons (pv 5) pa_nil)))) pa_nil))) (pa_cons (pe_lst (pa_cons (pe_tup (pa_cons pe_str (pa_cons pe_int pa_nil))) (pa_cons (pe_tup (pa_cons pe_str (pa_cons pe_int pa_nil))) (pa_cons (pe_tup (pa_cons pe_str (pa_cons pe_int pa_nil))) pa_nil)))) pa_nil))))
    pss_nil) pss_nil)
    (pss_cons (ps_if (pt_cmpR op_eq (pv 1) pe_int (nomark _)) (pss_cons (ps_ret (pe_tup (pa_cons (pe_lst (pa_cons (pe_tup (pa_cons (pe_op op_add_str (pv 2) (pv 2)) (pa_cons (pv 4) (pa_cons (pv 5) pa_nil)))) (pa_cons (pe_tup (pa_cons (pv 8) (pa_cons (pe_op op_mul pe_int (pv 4)) (pa_cons (pe_op op_mul pe_int (pv 5)) pa_nil)))) pa_nil))) (pa_cons (pe_lst (pa_cons (pe_tup (pa_cons pe_str (pa_cons pe_int (pa_cons pe_int pa_nil)))) (pa_cons (pe_tup (pa_cons pe_str (pa_cons pe_int pa_nil))) (pa_cons (pe_tup (pa_cons pe_str (pa_cons pe_int pa_nil))) (pa_cons (pe_tup (pa_cons pe_str (pa_cons pe_int pa_nil))) pa_nil))))) pa_nil))))
    pss_nil) pss_nil)
    (pss_cons (ps_if (pt_cmpR op_eq (pv 1) pe_int (nomark _)) (pss_cons (ps_set (i := 10) sc_law_paper.nd rfl (Or.inl rfl) (pe_op op_cat (pe_op op_cat (pe_lst (pa_cons (pe_tup (pa_cons pe_str (pa_cons pe_int (pa_cons (pv 6) pa_nil)))) (pa_cons (pe_tup (pa_cons pe_str (pa_cons pe_int pa_nil))) pa_nil))) (pe_c (c_law_melt T) hr (by decide) (by rfl) (pa_cons pe_int (pa_cons (pv 6) pa_nil)))) (pe_lst (pa_cons (pe_tup (pa_cons pe_str (pa_cons pe_int pa_nil))) (pa_cons (pe_tup (pa_cons pe_str (pa_cons pe_int pa_nil))) (pa_cons (pe_tup (pa_cons pe_str (pa_cons pe_int pa_nil))) pa_nil))))))
    (pss_cons (ps_ret (pe_tup (pa_cons (pe_lst (pa_cons (pe_tup (pa_cons (pe_op op_add_str (pe_op op_add_str (pv 2) (pv 3)) (pv 8)) (pa_cons (pv 4) (pa_cons (pv 5) pa_nil)))) (pa_cons (pe_tup (pa_cons (pv 2) (pa_cons pe_int (pa_cons pe_int pa_nil)))) (pa_cons (pe_tup (pa_cons (pv 3) (pa_cons (pe_un un_neg (pv 4)) (pa_cons (pe_un un_neg (pv 5)) pa_nil)))) (pa_cons (pe_tup (pa_cons (pv 8) (pa_cons pe_int (pa_cons pe_int pa_nil)))) pa_nil))))) (pa_cons (pe_op op_cat (pv 10) (pe_c (c_law_melt T) hr (by decide) (by rfl) (pa_cons pe_int (pa_cons (pv 6) pa_nil)))) pa_nil))))
    pss_nil)) pss_nil)
    (pss_cons (ps_if (pt_cmpR op_eq (pv 1) pe_int (nomark _)) (pss_cons (ps_set (i := 10) sc_law_paper.nd rfl (Or.inl rfl) (pe_op op_cat (pe_op op_cat (pe_lst (pa_cons (pe_tup (pa_cons pe_str (pa_cons pe_int (pa_cons (pv 6) pa_nil)))) (pa_cons (pe_tup (pa_cons pe_str (pa_cons pe_int pa_nil))) pa_nil))) (pe_c (c_law_melt T) hr (by decide) (by rfl) (pa_cons pe_int (pa_cons (pv 6) pa_nil)))) (pe_lst (pa_cons (pe_tup (pa_cons pe_str (pa_cons pe_int pa_nil))) (pa_cons (pe_tup (pa_cons pe_str (pa_cons pe_int pa_nil))) pa_nil)))))
    (pss_cons (ps_ret (pe_tup (pa_cons (pe_lst (pa_cons (pe_tup (pa_cons (pv 2) (pa_cons pe_int (pa_cons pe_int pa_nil)))) (pa_cons (pe_tup (pa_cons (pe_op op_add_str (pv 3) (pv 2)) (pa_cons (pv 4) (pa_cons (pv 5) pa_nil)))) (pa_cons (pe_tup (pa_cons (pv 8) (pa_cons pe_int (pa_cons pe_int pa_nil)))) (pa_cons (pe_tup (pa_cons (pe_op op_add_str (pv 2) (pv 3)) (pa_cons (pe_un un_neg (pv 4)) (pa_cons (pe_un un_neg (pv 5)) pa_nil)))) pa_nil))))) (pa_cons (pv 10) pa_nil))))
    pss_nil)) pss_nil)
    (pss_cons (ps_if (pt_cmpR op_eq (pv 1) pe_int (nomark _)) (pss_cons (ps_set (i := 10) sc_law_paper.nd rfl (Or.inl rfl) (pe_op op_cat (pe_op op_cat (pe_lst (pa_cons (pe_tup (pa_cons pe_str (pa_cons pe_int (pa_cons (pe_op op_sub (pe_c (c_law_take T) hr (by decide) (by rfl) (pa_cons (pv 0) (pa_cons pe_int pa_nil))) pe_int) (pa_cons (pe_op op_sub (pe_c (c_law_take T) hr (by decide) (by rfl) (pa_cons (pv 0) (pa_cons pe_int pa_nil))) pe_int) pa_nil))))) pa_nil)) (pe_op op_rep (pe_lst (pa_cons (pe_tup (pa_cons pe_str (pa_cons pe_int pa_nil))) pa_nil)) pe_int)) (pe_lst (pa_cons (pe_tup (pa_cons pe_str (pa_cons pe_int pa_nil))) pa_nil))))
    (pss_cons (ps_ret (pe_tup (pa_cons (pe_lst (pa_cons (pe_tup (pa_cons (pv 2) (pa_cons (pv 4) (pa_cons (pv 5) pa_nil)))) (pa_cons (pe_tup (pa_cons (pv 2) (pa_cons (pe_op op_sub pe_int (pv 4)) (pa_cons (pe_op op_sub (pe_un un_neg pe_int) (pv 5)) pa_nil)))) (pa_cons (pe_tup (pa_cons (pv 2) (pa_cons (pe_un un_neg pe_int) (pa_cons pe_int pa_nil)))) pa_nil)))) (pa_cons (pv 10) pa_nil))))
    pss_nil)) pss_nil)
    (pss_cons (ps_if (pt_cmpR op_eq (pv 1) pe_int (nomark _)) (pss_cons (ps_set (i := 10) sc_law_paper.nd rfl (Or.inl rfl) (pe_op op_cat (pe_op op_cat (pe_op op_cat (pe_lst (pa_cons (pe_tup (pa_cons pe_str (pa_cons pe_int (pa_cons (pv 6) pa_nil)))) (pa_cons (pe_tup (pa_cons pe_str (pa_cons pe_int pa_nil))) pa_nil))) (pe_c (c_law_melt T) hr (by decide) (by rfl) (pa_cons pe_int (pa_cons (pv 7) pa_nil)))) (pe_lst (pa_cons (pe_tup (pa_cons pe_str (pa_cons pe_int pa_nil))) pa_nil))) (pe_c (c_law_melt T) hr (by decide) (by rfl) (pa_cons pe_int (pa_cons (pv 6) pa_nil)))))
    (pss_cons (ps_ret (pe_tup (pa_cons (pe_lst (pa_cons (pe_tup (pa_cons (pe_op op_add_str (pv 2) (pv 3)) (pa_cons pe_int (pa_cons pe_int pa_nil)))) (pa_cons (pe_tup (pa_cons (pv 9) (pa_cons pe_int (pa_cons pe_int pa_nil)))) (pa_cons (pe_tup (pa_cons (pv 8) (pa_cons pe_int (pa_cons pe_int pa_nil)))) pa_nil)))) (pa_cons (pv 10) pa_nil))))
    pss_nil)) pss_nil)
    (pss_cons (ps_ret (pe_tup (pa_cons (pe_lst (pa_cons (pe_tup (pa_cons (pe_op op_add_str (pe_op op_add_str (pv 2) (pv 8)) (pv 3)) (pa_cons (pv 4) (pa_cons (pv 5) pa_nil)))) (pa_cons (pe_tup (pa_cons (pv 3) (pa_cons (pe_un un_neg (pv 4)) (pa_cons (pe_un un_neg (pv 5)) pa_nil)))) pa_nil))) (pa_cons (pe_op op_cat (pe_slice sl_list (pe_c (c_law_melt T) hr (by decide) (by rfl) (pa_cons pe_int (pa_cons (pv 6) pa_nil))) po_none (po_some (pe_un un_neg pe_int))) (pe_lst (pa_cons (pe_tup (pa_cons pe_str (pa_cons pe_int pa_nil))) (pa_cons (pe_tup (pa_cons pe_str (pa_cons pe_int pa_nil))) pa_nil)))) pa_nil))))
    pss_nil))))))))))), ?_⟩
  intro a r F0 H0 D hp R
  dsimp only [nox_K]
  obtain ⟨hr1, _⟩ := hp
  obtain ⟨b, rfl⟩ := Option.isSome_iff_exists.mp hr1
  refine go_par3 (ean3 (ec_law_take (n := 8) (ea_cons (ev_var rfl) (ea_one ev_int)) (by decide) (by decide)) (ec_law_short_word (ea_one (ev_var rfl))) (ec_law_short_word (ea_one (ev_var rfl)))) ?_
  rintro ws ⟨_, _, _, ⟨kd, rfl, hkd⟩, ⟨x, rfl, hx, x1, x2⟩, ⟨y, rfl, hy, y1, y2⟩, rfl⟩
  refine ⟨_, _, _, rfl, ?_⟩
  refine go_par (ean2 ((ev_bsub ((ec_law_take (n := 9) (ea_cons (ev_var rfl) (ea_one ev_int)) (by decide) (by decide)).imp fun w h => h.bt) (ev_ival ev_int)).imp fun w h => h.mono (c := -4) (d := 4) (by decide) (by decide)) ((ev_bsub ((ec_law_take (n := 21) (ea_cons (ev_var rfl) (ea_one ev_int)) (by decide) (by decide)).imp fun w h => h.bt) (ev_ival ev_int)).imp fun w h => h.mono (c := -10) (d := 10) (by decide) (by decide))) ?_
  rintro ws ⟨_, _, ⟨p, rfl, p1, p2⟩, ⟨q, rfl, q1, q2⟩, rfl⟩
  refine ⟨_, _, rfl, ?_⟩
  have xl : x.length ≤ 100000 := by omega
  have yl : y.length ≤ 100000 := by omega
  have ul := und_length x
  have vl := und_length y
  apply go_unp (P := Is (.d (.tuple [.int (x.length : Nat), .int (y.length : Nat), .str (S (und x)), .str (S (und y))]))) (vs := [6, 7, 8, 9])
  · refine ev_tup (xs := [.int (x.length : Nat), .int (y.length : Nat), .str (S (und x)), .str (S (und y))]) ?_ (by simp)
    show EvA _ _ _ _ (IsA [.d (.int (x.length : Nat)), .d (.int (y.length : Nat)), .d (.str (S (und x))), .d (.str (S (und y)))])
    walk_at "ea"
  intro w e
  subst e
  refine ⟨_, eg_tup (xs := [.int (x.length : Nat), .int (y.length : Nat), .str (S (und x)), .str (S (und y))]) (egs_cons (eg_name (by decide)) (egs_cons (eg_name (by decide)) (egs_cons (eg_name (by decide)) (egs_cons (eg_name (by decide)) egs_nil)))) rfl, ?_⟩
  have c2p : CMul 2 p := .inl ⟨by decide, by decide⟩
  have c2q : CMul 2 q := .inl ⟨by decide, by decide⟩
  have lxy : (x ++ y).length = x.length + y.length := List.length_append
  have lxu : (x ++ und x).length = x.length + x.length := by rw [List.length_append, ul]
  have ok : ∀ k, PapOk 4 20 1 (paperR k x y p q) (paperS k x.length y.length 0 0) := fun k => paper_ok hx hy x1 x2 y1 y2 p1 p2 q1 q2 (by decide) (by decide) (by decide) (by decide)
  have fin : ∀ k (hs : List HS), hs = paperS k x.length y.length 0 0 → PapX 4 20 1 (.d (.tuple [.list (tsD (paperR k x y p q)), .list (hsD hs)])) := fun k hs e => ⟨_, _, rfl, by rw [e]; exact ok k⟩
  apply go_if (b := ((kd : Nat) : Int) == 0)
  · walk_at "et"
  · intro _
    refine go_ret R (P := Is (.d (.tuple [.list (tsD (paperR 0 x y p q)), .list (hsD _)]))) (ev_pap ?_ (ev_h2 (ev_hD2 (k := .join) (ea_cons ev_str (ea_one ev_int))) (ev_hD2 (k := .out) (ea_cons ev_str (ea_one ev_int))))) fun w e => by rw [e]; exact fin 0 _ rfl
    apply ev_is
    · walk_at "ev"
    · rfl
  intro _
  apply go_skip
  apply go_if (b := ((kd : Nat) : Int) == 1)
  · walk_at "et"
  · intro _
    refine go_ret R (P := Is (.d (.tuple [.list (tsD (paperR 1 x y p q)), .list (hsD _)]))) (ev_pap ?_ (ev_h3 (ev_hD2 (k := .turn) (ea_cons ev_str (ea_one ev_int))) (ev_hD2 (k := .join) (ea_cons ev_str (ea_one ev_int))) (ev_hD2 (k := .out) (ea_cons ev_str (ea_one ev_int))))) fun w e => by rw [e]; exact fin 1 _ rfl
    apply ev_is
    · walk_at "ev"
    · rfl
  intro _
  apply go_skip
  apply go_if (b := ((kd : Nat) : Int) == 2)
  · walk_at "et"
  · intro _
    refine go_ret R (P := Is (.d (.tuple [.list (tsD (paperR 2 x y p q)), .list (hsD _)]))) (ev_pap ?_ (ev_h4 (ev_hD3 (k := .root) (ea_cons ev_str (ea_cons ev_int (ea_one ev_int)))) (ev_hD2 (k := .turn) (ea_cons ev_str (ea_one ev_int))) (ev_hD2 (k := .join) (ea_cons ev_str (ea_one ev_int))) (ev_hD2 (k := .out) (ea_cons ev_str (ea_one ev_int))))) fun w e => by rw [e]; exact fin 2 _ rfl
    apply ev_is
    · walk_at "ev"
    · rfl
  intro _
  apply go_skip
  apply go_if (b := ((kd : Nat) : Int) == 3)
  · walk_at "et"
  · intro _
    apply go_assoc
    apply go_set (ev_catH (ev_catH (ev_h2 (ev_hD3 (k := .opn) (ea_cons ev_str (ea_cons ev_int (ea_one (ev_var rfl))))) (ev_hD2 (k := .glue) (ea_cons ev_str (ea_one ev_int)))) (ec_law_melt (n := x.length) (ea_cons ev_int (ea_one (ev_var rfl))) (by omega)) (by simp [melt_len]; omega)) (ev_h3 (ev_hD2 (k := .join) (ea_cons ev_str (ea_one ev_int))) (ev_hD2 (k := .out) (ea_cons ev_str (ea_one ev_int))) (ev_hD2 (k := .glue) (ea_cons ev_str (ea_one ev_int)))) (by simp [melt_len]; omega))
    apply go_assoc
    refine go_ret R (P := Is (.d (.tuple [.list (tsD (paperR 3 x y p q)), .list (hsD _)]))) (ev_pap ?_ (ev_catH (ev_var rfl) (ec_law_melt (n := x.length) (ea_cons ev_int (ea_one (ev_var rfl))) (by omega)) (by simp [melt_len]; omega))) fun w e => by rw [e]; exact fin 3 _ (by simp [paperS])
    apply ev_is
    · walk_at "ev"
    · rfl
  intro _
  apply go_skip
  apply go_if (b := ((kd : Nat) : Int) == 4)
  · walk_at "et"
  · intro _
    apply go_assoc
    apply go_set (ev_catH (ev_catH (ev_h2 (ev_hD3 (k := .back) (ea_cons ev_str (ea_cons ev_int (ea_one (ev_var rfl))))) (ev_hD2 (k := .glue) (ea_cons ev_str (ea_one ev_int)))) (ec_law_melt (n := x.length) (ea_cons ev_int (ea_one (ev_var rfl))) (by omega)) (by simp [melt_len]; omega)) (ev_h2 (ev_hD2 (k := .join) (ea_cons ev_str (ea_one ev_int))) (ev_hD2 (k := .out) (ea_cons ev_str (ea_one ev_int)))) (by simp [melt_len]; omega))
    apply go_assoc
    refine go_ret R (P := Is (.d (.tuple [.list (tsD (paperR 4 x y p q)), .list (hsD _)]))) (ev_pap ?_ (ev_var rfl)) fun w e => by rw [e]; exact fin 4 _ (by simp [paperS])
    apply ev_is
    · walk_at "ev"
    · rfl
  intro _
  apply go_skip
  apply go_if (b := ((kd : Nat) : Int) == 5)
  · walk_at "et"
  · intro _
    apply go_assoc
    refine go_asg (P := fun w => ∃ a c : Int, -10 ≤ a ∧ a ≤ 10 ∧ -10 ≤ c ∧ c ≤ 10 ∧ w = .d (.list (hsD (paperS 5 x.length y.length a c)))) (evn_op (Pa := fun w => ∃ a c : Int, -10 ≤ a ∧ a ≤ 10 ∧ -10 ≤ c ∧ c ≤ 10 ∧ w = .d (.list (hsD [(.split, [0, a, c]), (.join, [0]), (.join, [0]), (.join, [0])]))) (evn_op (Pa := fun w => ∃ a c : Int, -10 ≤ a ∧ a ≤ 10 ∧ -10 ≤ c ∧ c ≤ 10 ∧ w = .d (.list (hsD [(.split, [0, a, c])]))) (evn_lst (P := fun w => ∃ a c : Int, -10 ≤ a ∧ a ≤ 10 ∧ -10 ≤ c ∧ c ≤ 10 ∧ w = .d (.list (hsD [(.split, [0, a, c])]))) (ean1 (evn_tup (P := fun w => ∃ a c : Int, -10 ≤ a ∧ a ≤ 10 ∧ -10 ≤ c ∧ c ≤ 10 ∧ w = .d (hD (.split, [0, a, c]))) (ean4 ev_str ev_int ((ev_bsub ((ec_law_take (n := 7) (ea_cons (ev_var rfl) (ea_one ev_int)) (by decide) (by decide)).imp fun w h => h.bt) (ev_ival ev_int)).imp fun w h => h.mono (c := -10) (d := 10) (by decide) (by decide)) ((ev_bsub ((ec_law_take (n := 9) (ea_cons (ev_var rfl) (ea_one ev_int)) (by decide) (by decide)).imp fun w h => h.bt) (ev_ival ev_int)).imp fun w h => h.mono (c := -10) (d := 10) (by decide) (by decide))) ?_)) ?_) fun x0 h0 => ⟨Is (.d (.list (hsD [(.join, [0]), (.join, [0]), (.join, [0])]))), ?_, fun y0 e0 => ?_⟩) fun x0 h0 => ⟨Is (.d (.list (hsD [(.out, [0])]))), ev_h1 (ev_hD2 (k := .out) (ea_cons ev_str (ea_one ev_int))), fun y0 e0 => ?_⟩) fun w ⟨a, c, a1, a2, c1, c2, ew⟩ => ?_
    · rintro ws ⟨x0, y0, z0, u0, rfl, rfl, ⟨a, rfl, a1, a2⟩, ⟨c, rfl, c1, c2⟩, rfl⟩
      exact ⟨[.str Kd.split.name, .int 0, .int a, .int c], rfl, by simp, a, c, a1, a2, c1, c2, rfl⟩
    · rintro ws ⟨x0, ⟨a, c, a1, a2, c1, c2, rfl⟩, rfl⟩
      exact ⟨[hD (.split, [0, a, c])], rfl, by simp, a, c, a1, a2, c1, c2, rfl⟩
    · exact ev_is (ev_op (ev_h1 (ev_hD2 (k := .join) (ea_cons ev_str (ea_one ev_int)))) ev_int (rv_rep (by decide) (by decide) (by show 1 * 3 ≤ 100000; decide))) rfl
    · obtain ⟨a, c, a1, a2, c1, c2, rfl⟩ := h0
      subst e0
      exact fun F H v w o f hv hw Q q => rv_cat (by show 1 + 3 ≤ _; decide) F H v w o f hv hw Q fun u H2 z ez s rx => q u H2 z (show ∃ a c : Int, -10 ≤ a ∧ a ≤ 10 ∧ -10 ≤ c ∧ c ≤ 10 ∧ z = .d (.list (hsD [(.split, [0, a, c]), (.join, [0]), (.join, [0]), (.join, [0])])) from ⟨a, c, a1, a2, c1, c2, ez⟩) s rx
    · obtain ⟨a, c, a1, a2, c1, c2, rfl⟩ := h0
      subst e0
      exact fun F H v w o f hv hw Q q => rv_cat (by show 4 + 1 ≤ _; decide) F H v w o f hv hw Q fun u H2 z ez s rx => q u H2 z ⟨a, c, a1, a2, c1, c2, ez⟩ s rx
    subst ew
    apply go_assoc
    refine go_ret R (P := Is (.d (.tuple [.list (tsD (paperR 5 x y p q)), .list (hsD (paperS 5 x.length y.length a c))]))) (ev_pap ?_ (ev_var rfl)) fun w e => by rw [e]; exact ⟨_, _, rfl, paper_ok hx hy x1 x2 y1 y2 p1 p2 q1 q2 a1 a2 c1 c2⟩
    apply ev_is
    · walk_at "ev"
    · rfl
  intro _
  apply go_skip
  apply go_if (b := ((kd : Nat) : Int) == 6)
  · walk_at "et"
  · intro _
    apply go_assoc
    apply go_set (ev_catH (ev_catH (ev_catH (ev_h2 (ev_hD3 (k := .cut) (ea_cons ev_str (ea_cons ev_int (ea_one (ev_var rfl))))) (ev_hD2 (k := .glue) (ea_cons ev_str (ea_one ev_int)))) (ec_law_melt (n := y.length) (ea_cons ev_int (ea_one (ev_var rfl))) (by omega)) (by simp [melt_len]; omega)) (ev_h1 (ev_hD2 (k := .glue) (ea_cons ev_str (ea_one ev_int)))) (by simp [melt_len]; omega)) (ec_law_melt (n := x.length) (ea_cons ev_int (ea_one (ev_var rfl))) (by omega)) (by simp [melt_len]; omega))
    apply go_assoc
    refine go_ret R (P := Is (.d (.tuple [.list (tsD (paperR 6 x y p q)), .list (hsD _)]))) (ev_pap ?_ (ev_var rfl)) fun w e => by rw [e]; exact fin 6 _ (by simp [paperS])
    apply ev_is
    · walk_at "ev"
    · rfl
  intro _
  apply go_skip
  refine go_ret R (P := Is (.d (.tuple [.list (tsD (paperR 7 x y p q)), .list (hsD (undos 0 x.length ++ [(.join, [0]), (.out, [0])]))]))) (ev_pap ?_ (ev_catH (ev_is (ev_sl (w := .d (.list (hsD (melt 0 x.length)))) (ec_law_melt (n := x.length) (ea_cons ev_int (ea_one (ev_var rfl))) (by omega)) eo_none (eo_some (i := -1) (ev_un ev_int ru_neg)) rs_list) (by rw [melt_eq, hsD_app]; exact congrArg (fun z => Da.d (PyData.list z)) (cutP_init _ _))) (ev_h2 (ev_hD2 (k := .join) (ea_cons ev_str (ea_one ev_int))) (ev_hD2 (k := .out) (ea_cons ev_str (ea_one ev_int)))) (by simp [undos_len]; omega))) fun w e => by rw [e]; exact fin 7 _ rfl
  apply ev_is
  · walk_at "ev"
  · rfl
theorem ec_law_paper {b : Addr} (h : EvA K (some b) ta ds (IsA [.v (.ref b)])) : Ev K (some b) (tCall (sp_law_paper K) [] E0 ta) ds (PapX 4 20 1) := ev_callB () h rfl rfl trivial
end
end Kn

set_option Elab.async false
set_option linter.all false
set_option maxRecDepth 100000
set_option maxHeartbeats 4000000
/-! A block is moved. -/
namespace Kn
open PySem PySem.Spec PyProof.Rows L2
local macro_rules | `(tactic| walk_at "sd") => `(tactic| first | trivial | assumption | walk_at "sz")
local macro_rules | `(tactic| walk_at "sz") => `(tactic| first | assumption | decide | omega | rfl | (simp only [List.length_append, List.length_map, List.length_cons, List.length_nil, List.length_reverse]; omega))
local macro_rules | `(tactic| walk_at "rv") => `(tactic| with_reducible first
  | exact rv_ix0 | exact rv_ix1 | exact rv_ix2 | exact rv_eqI | exact rv_neI | exact rv_eqE | exact rv_neE | exact rv_eqW | exact rv_neW | exact rv_eqS | exact rv_neS
  | exact rv_int0 | exact rv_bl0
  | exact rv_ixT0 | exact rv_ixT1
  | exact rv_ixRT (by assumption) | exact rv_ixRL (by assumption) | (apply rv_ixW; walk_at "sz"; assumption)
  | (refine rv_addW ?_; walk_at "sz")
  | (refine rv_catRT ?_; walk_at "sz") | (refine rv_catRL ?_; walk_at "sz")
  | (refine rv_intC ?_; assumption) | (apply rv_mulW; walk_at "sz"; walk_at "sz"; walk_at "sz")
  | exact rv_inW | exact rv_inSign | exact rv_isN | exact rv_notN | exact rv_notBl
  | exact rv_ixT (by with_unfolding_all rfl) | exact rv_ixL (by with_unfolding_all rfl)
  | exact rv_ixT (by assumption) | exact rv_ixL (by assumption)
  | (refine rv_catA ?_; walk_at "sz") | (refine rv_cat ?_; walk_at "sz"))
local macro_rules | `(tactic| walk_at "rs") => `(tactic| with_reducible first
  | exact rs_rT | exact rs_rL
  | (refine rs_w ?_ ?_; walk_at "sz"; (with_unfolding_all first | exact Nat.zero_le _ | exact HT.sIx_le _ _ (Nat.zero_le _) _ | assumption))
  | exact rs_tup | exact rs_list
  | (refine rs_str ?_; walk_at "sz"))
local macro_rules | `(tactic| walk_at "rc") => `(tactic| with_reducible first
  | exact rc_lenD3 | exact rc_lenRT | exact rc_lenRL | exact rc_lenT | exact rc_lenL | (refine rc_lenW ?_; walk_at "sz") | (refine rc_lenS ?_; walk_at "sz")
  | exact rc_isi (kit_int _) | exact rc_isi (kit_bool _) | exact rc_isi (kit_str _) | exact rc_isi (kit_tup _)
  | exact rc_max | exact rc_min | exact rc_int | exact rc_abs | exact rc_all | exact rc_tupL | exact rc_tupT | exact rc_list | exact rc_listT | (refine rc_listW ?_; walk_at "sz"))
local macro_rules | `(tactic| walk_at "rm") => `(tactic| first | (with_reducible apply rm_lowW; assumption; walk_at "sz") | (with_reducible apply rm_upW; assumption; walk_at "sz"))
local macro_rules | `(tactic| walk_at "ea") => `(tactic| first
  | with_reducible exact ea_nil
  | ((with_reducible apply ea_cons); walk_at "ev"; walk_at "ea"))
local macro_rules | `(tactic| walk_at "eo") => `(tactic| first
  | with_reducible exact eo_none
  | ((with_reducible apply eo_some); walk_at "ev"))
local macro_rules | `(tactic| walk_at "et") => `(tactic| first
  | ((with_reducible apply et_test); walk_at "ev")
  | ((with_reducible apply et_B); walk_at "ev")
  | ((with_reducible apply et_not); walk_at "et")
  | ((with_reducible apply et_and); walk_at "et"; intro _; walk_at "et")
  | ((with_reducible apply et_or); walk_at "et"; intro _; walk_at "et"))
local macro_rules | `(tactic| walk_at "ev") => `(tactic| first
  | with_reducible exact ev_int | with_reducible exact ev_str | with_reducible exact ev_bl | with_reducible exact ev_non | with_reducible exact ev_val
  | ((with_reducible apply ev_var); exact rfl)
  | ((with_reducible apply ev_op); walk_at "ev"; walk_at "ev"; walk_at "rv")
  | ((with_reducible apply ev_un); walk_at "ev"; exact ru_neg)
  | ((with_reducible apply ev_and); walk_at "ev"; intro _; walk_at "ev")
  | ((with_reducible apply ev_or); walk_at "ev"; intro _; walk_at "ev")
  | ((with_reducible apply ev_not); walk_at "ev")
  | ((with_reducible apply ev_sl); walk_at "ev"; walk_at "eo"; walk_at "eo"; walk_at "rs")
  | ((with_reducible apply ev_chain); walk_at "ev"; walk_at "ev"; walk_at "rv"; (intro _; walk_at "ev"); (intro _; walk_at "rv"))
  | walk_at "ec"
  | ((with_reducible apply ev_if); walk_at "et"; (intro _; walk_at "ev"); (intro _; walk_at "ev"))
  | ((with_reducible apply ev_m0); walk_at "ev"; walk_at "rm")
  | ((with_reducible apply ev_cb); walk_at "ea"; walk_at "rc")
  | ((with_reducible apply ev_tD); walk_at "ea")
  | with_reducible exact ev_rT0 | with_reducible exact ev_rL0
  | ((with_reducible apply ev_rT1); walk_at "ea") | ((with_reducible apply ev_rT2); walk_at "ea") | ((with_reducible apply ev_rT3); walk_at "ea")
  | ((with_reducible apply ev_rL1); walk_at "ea") | ((with_reducible apply ev_rL2); walk_at "ea") | ((with_reducible apply ev_rL3); walk_at "ea") | ((with_reducible apply ev_rL4); walk_at "ea")
  | ((with_reducible apply ev_revW); walk_at "ev"; walk_at "sz")
  | ((with_reducible apply ev_revL); walk_at "ev")
  | ((with_reducible apply ev_revT); walk_at "ev"))
local macro_rules | `(tactic| walk_at "ret") => `(tactic| (apply go_retE; assumption; exact rfl; walk_at "ev"))
local macro_rules | `(tactic| walk_at "if") => `(tactic| (apply go_if; walk_at "et"))
local macro_rules | `(tactic| walk_at "set") => `(tactic| (apply go_set; walk_at "ev"))
local macro_rules | `(tactic| walk_at "eg") => `(tactic| first | exact eg_name (by decide) | exact eg_tD (by decide) (by decide) (by decide))
section
variable {K K' : PySem.W.Frag} {r : Res} {ds : Sl} {P : Da → Prop} {ta tb tc te te0 : TE} {tt : TT}
/-- a row that is one of some -/
def RX (A : Row → Prop) (w : Da) : Prop := ∃ l : Row, w = .d (.list (tsD l)) ∧ A l
theorem evn_catR {A B C : Row → Prop} (ha : Ev K r ta ds (RX A)) (hb : Ev K r tb ds (RX B)) (h : ∀ l m, A l → B m → l.length + m.length ≤ 1000 ∧ C (l ++ m)) : Ev K r (tOp rCat ta tb) ds (RX C) := evn_op ha fun x ⟨l1, e1, h1⟩ => ⟨_, hb, fun y ⟨l2, e2, h2⟩ => by
  subst e1; subst e2
  obtain ⟨g1, g2⟩ := h l1 l2 h1 h2
  exact fun F H v w o f hv hw Q q => rv_catRL (by omega) F H v w o f hv hw Q fun u H2 z ez s rx => q u H2 z ⟨l1 ++ l2, ez, g2⟩ s rx⟩
theorem ev_rx {l : Row} {A : Row → Prop} (h : Ev K r ta ds (Is (.d (.list (tsD l))))) (ha : A l) : Ev K r ta ds (RX A) := h.imp fun w e => ⟨l, e, ha⟩
end
def near (t t' : Tr) : Prop := t'.1 = t.1 ∧ t.2.1 ≤ t'.2.1 ∧ t'.2.1 ≤ t.2.1 + 1 ∧ t.2.2 ≤ t'.2.2 ∧ t'.2.2 ≤ t.2.2 + 1
/-- the row, one block of it moved -/
def MvB (row row' : Row) : Prop := (row'.length ≤ row.length ∨ row'.length = 1) ∧ ∀ t' ∈ row', t' = ([97], 0, 1) ∨ ∃ t ∈ row, near t t'
theorem near_refl (t : Tr) : near t t := ⟨rfl, Int.le_refl _, by omega, Int.le_refl _, by omega⟩
theorem S_a : Str.ofString "a" = S [97] := by decide +kernel
section
variable {P : Program} {w w' : World} {K K' : PySem.W.Frag} {mg : Str → Option Value} {base : Heap} {r : Res} {ds : Sl} {ta : TA}
def sp_law_moved_block (K : PySem.W.Frag) : Sp := spB K (fun row : Row => [.d (.list (tsD row))]) (fun row => RLW row ∧ row.length ≤ 100) fun row => RX (MvB row)
-- slots: 0=_law_bag_here 1=_law_row 2=_law_at 3=_law_strand 4=_law_by 5=_law_over
theorem sc_law_moved_block : FnScope ["_law_bag_here", "_law_row", "_law_at", "_law_strand", "_law_by", "_law_over"] ["_law_bag_here", "_law_row"] (defScope s_law_moved_block) := C8.fnScope_by (by decide +kernel)
theorem c_law_moved_block (T : Tx K mg w) : Cal P w K mg base 2 "_law_moved_block" ["_law_bag_here", "_law_row"] (sp_law_moved_block K) := by
  refine calG T.e_law_moved_block T.g_law_moved_block sc_law_moved_block (fun _ _ _ _ _ _ us hl => match us, hl with | [_, _], _ => rfl) (fun _ _ => rfl) fun f cdv A outer s H E hr => ?_
  refine ⟨_, (pss_cons (ps_if (pt_cmpR (op_eqD hr.units) (pv 1) (pe_lst pa_nil) (nomark _)) (pss_cons (ps_ret (pe_lst (pa_cons (pe_tup (pa_cons pe_str (pa_cons pe_int (pa_cons pe_int pa_nil)))) pa_nil)))
    pss_nil) pss_nil)
    (pss_cons (ps_set (i := 2) sc_law_moved_block.nd rfl (Or.inl rfl) (pe_c (c_law_take T) hr (by decide) (by rfl) (pa_cons (pv 0) (pa_cons (pe_callB call_len_seq (by rfl) T.f_len PySem.boot_len (pa_cons (pv 1) pa_nil)) pa_nil))))
    (pss_cons (ps_asg (pe_ix ix_list (pv 1) (pv 2) (fun _ _ => rfl)) (pg_tup rfl (pgs_cons (pg_name (i := 3) sc_law_moved_block.nd rfl (Or.inl rfl)) (pgs_cons (pg_name (i := 4) sc_law_moved_block.nd rfl (Or.inl rfl)) (pgs_cons (pg_name (i := 5) sc_law_moved_block.nd rfl (Or.inl rfl)) pgs_nil)))))
    (pss_cons (ps_ret (pe_op op_cat (pe_op op_cat (pe_slice sl_list (pv 1) po_none (po_some (pv 2))) (pe_lst (pa_cons (pe_ifExp (pt_cmpR op_eq (pe_c (c_law_take T) hr (by decide) (by rfl) (pa_cons (pv 0) (pa_cons pe_int pa_nil))) pe_int (nomark _)) (pe_tup (pa_cons (pv 3) (pa_cons (pv 4) (pa_cons (pe_op op_add (pv 5) pe_int) pa_nil)))) (pe_tup (pa_cons (pv 3) (pa_cons (pe_op op_add (pv 4) pe_int) (pa_cons (pv 5) pa_nil))))) pa_nil))) (pe_slice sl_list (pv 1) (po_some (pe_op op_add (pv 2) pe_int)) po_none)))
    pss_nil)))), ?_⟩
  intro a r F0 H0 D hp R
  dsimp only [nox_K]
  obtain ⟨hr1, hw, hl⟩ := hp
  obtain ⟨b, rfl⟩ := Option.isSome_iff_exists.mp hr1
  have hsh := shaped_L hw
  cases a with
  | nil =>
    refine go_ifT ?_ ?_
    · exact et_is (et_test (ev_op (x := .d (.list (tsD []))) (y := .d (.list [])) (ev_var rfl) (ev_lst (xs := []) ea_nil (by simp)) (rv_eqD rfl hsh rfl))) (by rw [eqv_nilL]; rfl)
    · refine go_ret R (P := Is (.d (.list (tsD [([97], 0, 1)])))) (ev_rL1 (ea_one (ev_tD (ea_cons (ev_is ev_str (by rw [S_a])) (ea_cons ev_int (ea_one ev_int)))))) fun w e => ⟨_, e, .inr rfl, fun t ht => .inl (List.mem_singleton.mp ht)⟩
  | cons t0 rest =>
    generalize hrow : t0 :: rest = row at hw hl hsh R ⊢
    have hpos : 0 < row.length := by rw [← hrow, List.length_cons]; omega
    refine go_ifF ?_ (go_skip ?_)
    · exact et_is (et_test (ev_op (x := .d (.list (tsD row))) (y := .d (.list [])) (ev_var rfl) (ev_lst (xs := []) ea_nil (by simp)) (rv_eqD rfl hsh rfl))) (by rw [eqv_nilL, ← hrow]; rfl)
    refine go_asg (P := Dr row.length) (ec_law_take (n := row.length) (ea_cons (ev_var rfl) (ea_one (ev_cb (ea_one (ev_var rfl)) rc_lenRL))) hpos (by omega)) fun w ⟨k, ew, hk⟩ => ?_
    subst ew
    have hx : atI row ((k : Nat) : Int) = some row[k] := atI_nat hk
    have hm : row[k] ∈ row := List.getElem_mem _
    apply go_unpD (t := row[k])
    · walk_at "ev"
    refine go_ret R (P := RX (MvB row)) (evn_catR (A := fun l => l.length ≤ k + 1 ∧ ∀ t ∈ l, ∃ u ∈ row, near u t) (B := fun l => l.length + (k + 1) ≤ row.length ∧ ∀ t ∈ l, t ∈ row) (evn_catR (A := fun l => l.length ≤ k ∧ ∀ t ∈ l, t ∈ row) (B := fun l => l.length = 1 ∧ ∀ t ∈ l, near row[k] t) (C := fun l => l.length ≤ k + 1 ∧ ∀ t ∈ l, ∃ u ∈ row, near u t) (ev_rx (l := cutG row none (some ((k : Nat) : Int))) ?_ ?_) ?_ ?_) (ev_rx (l := cutG row (some (((k : Nat) : Int) + 1)) none) ?_ ?_) ?_) fun w e => e
    · walk_at "ev"
    · rw [cutG_take]
      exact ⟨by rw [List.length_take]; omega, fun t ht => List.mem_of_mem_take ht⟩
    · refine evn_lst (ean1 (Pa := fun x => ∃ t, near row[k] t ∧ x = .d (tD t)) (evn_if (Pb := fun _ => True) (et_any (ev_deq (ec_law_take (n := 2) (ea_cons (ev_var rfl) (ea_one ev_int)) (by decide) (by decide)))) (fun _ => ?_) fun _ => ?_)) ?_
      · exact (ev_tD (a := row[k].1) (b := row[k].2.1) (c := row[k].2.2 + 1) (ea_cons (ev_var rfl) (ea_cons (ev_var rfl) (ea_one (ev_op (ev_var rfl) ev_int rv_int0))))).imp fun w e => ⟨(row[k].1, row[k].2.1, row[k].2.2 + 1), ⟨rfl, by dsimp only; omega, by dsimp only; omega, by dsimp only; omega, by dsimp only; omega⟩, e⟩
      · exact (ev_tD (a := row[k].1) (b := row[k].2.1 + 1) (c := row[k].2.2) (ea_cons (ev_var rfl) (ea_cons (ev_op (ev_var rfl) ev_int rv_int0) (ea_one (ev_var rfl))))).imp fun w e => ⟨(row[k].1, row[k].2.1 + 1, row[k].2.2), ⟨rfl, by dsimp only; omega, by dsimp only; omega, by dsimp only; omega, by dsimp only; omega⟩, e⟩
      · rintro ws ⟨x, ⟨t, ht, rfl⟩, rfl⟩
        exact ⟨[tD t], rfl, by simp, [t], rfl, rfl, fun u hu => by rw [List.mem_singleton.mp hu]; exact ht⟩
    · rintro l m ⟨h1, h2⟩ ⟨h3, h4⟩
      refine ⟨by omega, by rw [List.length_append]; omega, fun t ht => ?_⟩
      rcases List.mem_append.mp ht with h | h
      · exact ⟨t, h2 t h, near_refl t⟩
      · exact ⟨_, hm, h4 t h⟩
    · walk_at "ev"
    · rw [show ((k : Nat) : Int) + 1 = ((k + 1 : Nat) : Int) by omega, cutG_drop]
      exact ⟨by rw [List.length_drop]; omega, fun t ht => List.mem_of_mem_drop ht⟩
    · rintro l m ⟨h1, h2⟩ ⟨h3, h4⟩
      refine ⟨by omega, .inl (by rw [List.length_append]; omega), fun t ht => ?_⟩
      rcases List.mem_append.mp ht with h | h
      · exact .inr (h2 t h)
      · exact .inr ⟨t, h4 t h, near_refl t⟩
theorem ec_law_moved_block {row : Row} {b : Addr} (h : EvA K (some b) ta ds (IsA [.v (.ref b), .d (.list (tsD row))])) (h1 : RLW row) (h2 : row.length ≤ 100) : Ev K (some b) (tCall (sp_law_moved_block K) [] E0 ta) ds (RX (MvB row)) := ev_callB row h rfl rfl ⟨h1, h2⟩
end
end Kn

set_option Elab.async false
set_option linter.all false
set_option maxRecDepth 100000
set_option maxHeartbeats 4000000
/-! Papers, and steps one of which is otherwise. -/
namespace Kn
open PySem PySem.Spec PyProof.Rows L2
local macro_rules | `(tactic| walk_at "sd") => `(tactic| first | trivial | assumption | walk_at "sz")
local macro_rules | `(tactic| walk_at "sz") => `(tactic| first | assumption | decide | omega | rfl | (simp only [List.length_append, List.length_map, List.length_cons, List.length_nil, List.length_reverse]; omega))
local macro_rules | `(tactic| walk_at "rv") => `(tactic| with_reducible first
  | exact rv_ix0 | exact rv_ix1 | exact rv_ix2 | exact rv_eqI | exact rv_neI | exact rv_eqE | exact rv_neE | exact rv_eqW | exact rv_neW | exact rv_eqS | exact rv_neS
  | exact rv_int0 | exact rv_bl0
  | exact rv_ixT0 | exact rv_ixT1
  | exact rv_ixRT (by assumption) | exact rv_ixRL (by assumption) | (apply rv_ixW; walk_at "sz"; assumption)
  | (refine rv_addW ?_; walk_at "sz")
  | (refine rv_catRT ?_; walk_at "sz") | (refine rv_catRL ?_; walk_at "sz")
  | (refine rv_intC ?_; assumption) | (apply rv_mulW; walk_at "sz"; walk_at "sz"; walk_at "sz")
  | exact rv_inW | exact rv_inSign | exact rv_isN | exact rv_notN | exact rv_notBl
  | exact rv_ixT (by with_unfolding_all rfl) | exact rv_ixL (by with_unfolding_all rfl)
  | exact rv_ixT (by assumption) | exact rv_ixL (by assumption)
  | (refine rv_catA ?_; walk_at "sz") | (refine rv_cat ?_; walk_at "sz"))
local macro_rules | `(tactic| walk_at "rs") => `(tactic| with_reducible first
  | exact rs_rT | exact rs_rL
  | (refine rs_w ?_ ?_; walk_at "sz"; (with_unfolding_all first | exact Nat.zero_le _ | exact HT.sIx_le _ _ (Nat.zero_le _) _ | assumption))
  | exact rs_tup | exact rs_list
  | (refine rs_str ?_; walk_at "sz"))
local macro_rules | `(tactic| walk_at "rc") => `(tactic| with_reducible first
  | exact rc_lenD3 | exact rc_lenRT | exact rc_lenRL | exact rc_lenT | exact rc_lenL | (refine rc_lenW ?_; walk_at "sz") | (refine rc_lenS ?_; walk_at "sz")
  | exact rc_isi (kit_int _) | exact rc_isi (kit_bool _) | exact rc_isi (kit_str _) | exact rc_isi (kit_tup _)
  | exact rc_max | exact rc_min | exact rc_int | exact rc_abs | exact rc_all | exact rc_tupL | exact rc_tupT | exact rc_list | exact rc_listT | (refine rc_listW ?_; walk_at "sz"))
local macro_rules | `(tactic| walk_at "rm") => `(tactic| first | (with_reducible apply rm_lowW; assumption; walk_at "sz") | (with_reducible apply rm_upW; assumption; walk_at "sz"))
local macro_rules | `(tactic| walk_at "ea") => `(tactic| first
  | with_reducible exact ea_nil
  | ((with_reducible apply ea_cons); walk_at "ev"; walk_at "ea"))
local macro_rules | `(tactic| walk_at "eo") => `(tactic| first
  | with_reducible exact eo_none
  | ((with_reducible apply eo_some); walk_at "ev"))
local macro_rules | `(tactic| walk_at "et") => `(tactic| first
  | ((with_reducible apply et_test); walk_at "ev")
  | ((with_reducible apply et_B); walk_at "ev")
  | ((with_reducible apply et_not); walk_at "et")
  | ((with_reducible apply et_and); walk_at "et"; intro _; walk_at "et")
  | ((with_reducible apply et_or); walk_at "et"; intro _; walk_at "et"))
local macro_rules | `(tactic| walk_at "ev") => `(tactic| first
  | with_reducible exact ev_int | with_reducible exact ev_str | with_reducible exact ev_bl | with_reducible exact ev_non | with_reducible exact ev_val
  | ((with_reducible apply ev_var); exact rfl)
  | ((with_reducible apply ev_op); walk_at "ev"; walk_at "ev"; walk_at "rv")
  | ((with_reducible apply ev_un); walk_at "ev"; exact ru_neg)
  | ((with_reducible apply ev_and); walk_at "ev"; intro _; walk_at "ev")
  | ((with_reducible apply ev_or); walk_at "ev"; intro _; walk_at "ev")
  | ((with_reducible apply ev_not); walk_at "ev")
  | ((with_reducible apply ev_sl); walk_at "ev"; walk_at "eo"; walk_at "eo"; walk_at "rs")
  | ((with_reducible apply ev_chain); walk_at "ev"; walk_at "ev"; walk_at "rv"; (intro _; walk_at "ev"); (intro _; walk_at "rv"))
  | walk_at "ec"
  | ((with_reducible apply ev_if); walk_at "et"; (intro _; walk_at "ev"); (intro _; walk_at "ev"))
  | ((with_reducible apply ev_m0); walk_at "ev"; walk_at "rm")
  | ((with_reducible apply ev_cb); walk_at "ea"; walk_at "rc")
  | ((with_reducible apply ev_tD); walk_at "ea")
  | with_reducible exact ev_rT0 | with_reducible exact ev_rL0
  | ((with_reducible apply ev_rT1); walk_at "ea") | ((with_reducible apply ev_rT2); walk_at "ea") | ((with_reducible apply ev_rT3); walk_at "ea")
  | ((with_reducible apply ev_rL1); walk_at "ea") | ((with_reducible apply ev_rL2); walk_at "ea") | ((with_reducible apply ev_rL3); walk_at "ea") | ((with_reducible apply ev_rL4); walk_at "ea")
  | ((with_reducible apply ev_revW); walk_at "ev"; walk_at "sz")
  | ((with_reducible apply ev_revL); walk_at "ev")
  | ((with_reducible apply ev_revT); walk_at "ev"))
local macro_rules | `(tactic| walk_at "ret") => `(tactic| (apply go_retE; assumption; exact rfl; walk_at "ev"))
local macro_rules | `(tactic| walk_at "if") => `(tactic| (apply go_if; walk_at "et"))
local macro_rules | `(tactic| walk_at "set") => `(tactic| (apply go_set; walk_at "ev"))
local macro_rules | `(tactic| walk_at "eg") => `(tactic| first | exact eg_name (by decide) | exact eg_tD (by decide) (by decide) (by decide))
theorem pap_mono {n m c n' m' c' : Nat} {row : Row} {hs : List HS} (h : PapOk n m c row hs) (h1 : n ≤ n') (h2 : m ≤ m') (h3 : c ≤ c') : PapOk n' m' c' row hs :=
  ⟨h.blk, Nat.le_trans h.len h1, Nat.le_trans h.hlen h2, h.pos, h.done, fun x hx => (h.hok x hx).mono (by omega), Nat.le_trans h.spl h3⟩
theorem pap_both {n m c n' m' c' : Nat} {r1 r2 : Row} {l1 l2 : List HS} (h : PapOk n m c r1 l1) (g : PapOk n' m' c' r2 l2) : PapOk (n + n') (m + m') (c + c') (r1 ++ r2) (l1 ++ l2) :=
  ⟨fun t ht => (List.mem_append.mp ht).elim (h.blk t) (g.blk t), by rw [List.length_append]; exact Nat.add_le_add h.len g.len, by rw [List.length_append]; exact Nat.add_le_add h.hlen g.hlen, fun e => h.pos (List.append_eq_nil_iff.mp e).1, srun_both h.done g.done,
    fun x hx => (List.mem_append.mp hx).elim (fun q => (h.hok x q).mono (by omega)) (fun q => (g.hok x q).mono (by omega)), by rw [nsH_app]; exact Nat.add_le_add h.spl g.spl⟩
theorem mov_k (n : Int) (h : HS) : (mov n h).1 = h.1 := by
  obtain ⟨k, as⟩ := h
  cases as <;> rfl
theorem nsH_mov (n : Int) (l : List HS) : nsH (l.map (mov n)) = nsH l := by
  induction l with
  | nil => rfl
  | cons h l ih => rw [List.map_cons, nsH_cons, nsH_cons, ih, mov_k]
theorem mov_ok {B : Int} {h : HS} (g : HOB B h) : HOB (B + 1) (mov 1 h) := by
  obtain ⟨k, as⟩ := h
  cases as with
  | nil => exact ⟨g.1, fun i hi => nomatch hi⟩
  | cons i r =>
    refine ⟨g.1, fun j hj => ?_⟩
    rcases List.mem_cons.mp hj with e | e
    · have := g.2 i List.mem_cons_self
      rw [e]
      omega
    · have := g.2 j (List.mem_cons_of_mem _ e)
      omega
theorem pap_in {n m c : Nat} {r1 : Row} {l1 : List HS} {x : Wd} {p q : Int} (h : PapOk n m c r1 l1) (hx : LW x) (x1 : 1 ≤ x.length) (x2 : x.length ≤ 3) (p1 : -2 ≤ p) (p2 : p ≤ 2) (q1 : -4 ≤ q) (q2 : q ≤ 4) : PapOk (n + 2) (m + 2) c ([(x, p, q)] ++ r1 ++ [(x, -p, -q)]) (l1.map (mov 1) ++ [(.join, [0]), (.out, [0])]) := by
  refine ⟨fun t ht => ?_, ?_, ?_, ?_, srun_in h.done, fun s hs => ?_, ?_⟩
  · rcases List.mem_append.mp ht with e | e
    · rcases List.mem_append.mp e with e | e
      · rw [List.mem_singleton.mp e]
        exact bk hx x1 (by omega) (by omega) (by omega) (by omega) (by omega)
      · exact h.blk t e
    · rw [List.mem_singleton.mp e]
      exact bk hx x1 (by omega) (by omega) (by omega) (by omega) (by omega)
  · have := h.len
    simp only [List.length_append, List.length_cons, List.length_nil]
    omega
  · have := h.hlen
    simp only [List.length_append, List.length_cons, List.length_nil, List.length_map]
    omega
  · simp
  · rcases List.mem_append.mp hs with e | e
    · obtain ⟨z, hz, rfl⟩ := List.mem_map.mp e
      exact (mov_ok (h.hok z hz)).mono (by omega)
    · have : HsOk [(.join, [0]), (.out, [0])] := HsOk.cons (hok2 rfl (by decide) (by decide)) (HsOk.cons (hok2 rfl (by decide) (by decide)) HsOk.nil)
      exact (this s e).mono (by omega)
  · rw [nsH_app, nsH_mov]
    have := h.spl
    show nsH l1 + 0 ≤ c
    omega
theorem hob_len {B : Int} {h : HS} (g : HOB B h) : h.2 ≠ [] ∧ h.2.length ≤ 3 := by
  obtain ⟨k, as⟩ := h
  have := g.1
  dsimp only at this ⊢
  refine ⟨fun e => ?_, ?_⟩
  · rw [e] at this
    cases k <;> cases this
  · cases k <;> (simp only [Kd.sz] at this; omega)
theorem stok_h {B : Int} {h : HS} (g : HOB B h) (hB : B ≤ 1000) : StOk (hD h) := by
  obtain ⟨k, as⟩ := h
  have h1 := (hob_len g).2
  refine ⟨by rw [List.length_cons, List.length_map]; omega, ?_⟩
  rw [List.all_cons, Bool.and_eq_true]
  refine ⟨decide_eq_true (names_kd k), List.all_eq_true.mpr fun x hx => ?_⟩
  obtain ⟨i, hi, rfl⟩ := List.mem_map.mp hx
  have := g.2 i hi
  have h2 : i.natAbs < 2000 := by omega
  exact decide_eq_true (Nat.lt_trans h2 (by decide))
theorem isSplit_h (h : HS) : isSplit (hD h) = decide (h.1 = .split) := by
  have key : ∀ k : Kd, (k.name == Str.ofString "split") = decide (k = .split) := fun k => by cases k <;> decide +kernel
  exact key h.1
theorem nsp_h (l : List HS) : nsp (hsD l) = nsH l := by
  unfold nsp nsH hsD
  rw [List.filter_map, List.length_map]
  congr 1
  congr 1
  funext h
  exact isSplit_h h
section
variable {B : Bs} {o : Ow} {ds : Sl} {P : Da → Prop} {te : TE} {tt : TT} {t t2 u : TS} {D : Ends}
/-- an if whose ways meet again -/
theorem go_ifJ {Pb : Bool → Prop} (J : Sl → Prop) (h : EvT B.K B.r tt ds Pb) (k1 : Pb true → ∀ D' : Ends, D'.rt = D.rt → (∀ ds', J ds' → ∀ σ H, Holds B o ds' σ H → D'.nx σ H) → Go B o ds t D')
    (k2 : Pb false → ∀ D' : Ends, D'.rt = D.rt → (∀ ds', J ds' → ∀ σ H, Holds B o ds' σ H → D'.nx σ H) → Go B o ds t2 D') (k : ∀ ds', J ds' → Go B o ds' u D) : Go B o ds (tSeq (tIfS tt t t2) u) D :=
  gon_if h (fun p σ H x => k1 p { D with nx := u D } rfl (fun ds' j σ' H' x' => k ds' j σ' H' x') σ H x) fun p σ H x => k2 p { D with nx := u D } rfl (fun ds' j σ' H' x' => k ds' j σ' H' x') σ H x
end
section
variable {P : Program} {w w' : World} {K K' : PySem.W.Frag} {mg : Str → Option Value} {base : Heap} {r : Res} {ds : Sl} {ta : TA}
def sp_law_papers (K : PySem.W.Frag) : Sp := spB K (fun _ : Unit => []) (fun _ => True) fun _ => PapX 10 50 2
theorem ev_take0 {n : Nat} {b : Addr} {ds : Sl} (h0 : ds[0]? = some (some (.v (.ref b)))) (h1 : 0 < n) (h2 : n < 1000) : Ev K (some b) (tCall (sp_law_take K) [] E0 (tCons (tVar 0) (tCons (tC (.int (n : Nat))) tNil))) ds (Dr n) := ec_law_take (n := n) (ea_cons (ev_var h0) (ea_one ev_int)) h1 h2
-- slots: 0=_law_bag_here 1=_law_row 2=_law_steps 3=_law_more_row 4=_law_more_steps 5=_law_x 6=_law_by 7=_law_over
theorem sc_law_papers : FnScope ["_law_bag_here", "_law_row", "_law_steps", "_law_more_row", "_law_more_steps", "_law_x", "_law_by", "_law_over"] ["_law_bag_here"] (defScope s_law_papers) := C8.fnScope_by (by decide +kernel)
theorem c_law_papers (T : Tx K mg w) : Cal P w K mg base 5 "_law_papers" ["_law_bag_here"] (sp_law_papers K) := by
  refine calG T.e_law_papers T.g_law_papers sc_law_papers (fun _ _ _ _ _ _ us hl => match us, hl with | [_], _ => rfl) (fun _ _ => rfl) fun f cdv A outer s H E hr => ?_
  refine ⟨_, (pss_cons (ps_asg (pe_c (c_law_paper T) hr (by decide) (by rfl) (pa_cons (pv 0) pa_nil)) (pg_tup rfl (pgs_cons (pg_name (i := 1) sc_law_papers.nd rfl (Or.inl rfl)) (pgs_cons (pg_name (i := 2) sc_law_papers.nd rfl (Or.inl rfl)) pgs_nil))))
    (pss_cons (ps_if (pt_cmpR op_eq (pe_c (c_law_take T) hr (by decide) (by rfl) (pa_cons (pv 0) (pa_cons pe_int pa_nil))) pe_int (nomark _)) (pss_cons (ps_asg (pe_c (c_law_paper T) hr (by decide) (by rfl) (pa_cons (pv 0) pa_nil)) (pg_tup rfl (pgs_cons (pg_name (i := 3) sc_law_papers.nd rfl (Or.inl rfl)) (pgs_cons (pg_name (i := 4) sc_law_papers.nd rfl (Or.inl rfl)) pgs_nil))))
    (pss_cons (ps_par (i := 1) (j := 2) rfl sc_law_papers.nd rfl rfl (by decide) rfl rfl (pa_cons (pe_op op_cat (pv 1) (pv 3)) (pa_cons (pe_op op_cat (pv 2) (pv 4)) pa_nil)) (by rfl))
    pss_nil)) pss_nil)
    (pss_cons (ps_if (pt_cmpR op_eq (pe_c (c_law_take T) hr (by decide) (by rfl) (pa_cons (pv 0) (pa_cons pe_int pa_nil))) pe_int (nomark _)) (pss_cons (ps_par3 (i := 5) (j := 6) (l := 7) rfl sc_law_papers.nd rfl rfl rfl (by decide) (by decide) (by decide) rfl rfl rfl (pa_cons (pe_c (c_law_short_word T) hr (by decide) (by rfl) (pa_cons (pv 0) pa_nil)) (pa_cons (pe_op op_sub (pe_c (c_law_take T) hr (by decide) (by rfl) (pa_cons (pv 0) (pa_cons pe_int pa_nil))) pe_int) (pa_cons (pe_op op_sub (pe_c (c_law_take T) hr (by decide) (by rfl) (pa_cons (pv 0) (pa_cons pe_int pa_nil))) pe_int) pa_nil))) (by rfl))
    (pss_cons (ps_set (i := 1) sc_law_papers.nd rfl (Or.inl rfl) (pe_op op_cat (pe_op op_cat (pe_lst (pa_cons (pe_tup (pa_cons (pv 5) (pa_cons (pv 6) (pa_cons (pv 7) pa_nil)))) pa_nil)) (pv 1)) (pe_lst (pa_cons (pe_tup (pa_cons (pv 5) (pa_cons (pe_un un_neg (pv 6)) (pa_cons (pe_un un_neg (pv 7)) pa_nil)))) pa_nil))))
    (pss_cons (ps_set (i := 2) sc_law_papers.nd rfl (Or.inl rfl) (pe_op op_cat (pe_c (c_law_moved T) hr (by decide) (by rfl) (pa_cons (pv 2) (pa_cons pe_int pa_nil))) (pe_lst (pa_cons (pe_tup (pa_cons pe_str (pa_cons pe_int pa_nil))) (pa_cons (pe_tup (pa_cons pe_str (pa_cons pe_int pa_nil))) pa_nil)))))
    pss_nil))) pss_nil)
    (pss_cons (ps_ret (pe_tup (pa_cons (pv 1) (pa_cons (pv 2) pa_nil))))
    pss_nil)))), ?_⟩
  intro a r F0 H0 D hp R
  dsimp only [nox_K]
  obtain ⟨hr1, _⟩ := hp
  obtain ⟨b, rfl⟩ := Option.isSome_iff_exists.mp hr1
  refine go_unp (P := PapX 4 20 1) (vs := [1, 2]) (ec_law_paper (ea_one (ev_var rfl))) fun w ⟨row, hs, ew, hpap⟩ => ?_
  subst ew
  refine ⟨_, eg_tup (xs := [.list (tsD row), .list (hsD hs)]) (egs_cons (eg_name (by decide)) (egs_cons (eg_name (by decide)) egs_nil)) rfl, ?_⟩
  refine go_ifJ (fun ds' => ∃ (row : Row) (hs : List HS) (s3 s4 : Option Da), PapOk 8 40 2 row hs ∧ ds' = [some (.v (.ref b)), some (.d (.list (tsD row))), some (.d (.list (hsD hs))), s3, s4, none, none, none]) (et_any (ev_deq (ev_take0 (n := 3) rfl (by decide) (by decide)))) (fun _ D' _ nx => ?_) (fun _ D' _ nx => ?_) ?_
  · refine go_unp (P := PapX 4 20 1) (vs := [3, 4]) (ec_law_paper (ea_one (ev_var rfl))) fun w ⟨row2, hs2, ew, hpap2⟩ => ?_
    subst ew
    refine ⟨_, eg_tup (xs := [.list (tsD row2), .list (hsD hs2)]) (egs_cons (eg_name (by decide)) (egs_cons (eg_name (by decide)) egs_nil)) rfl, ?_⟩
    have q1 := hpap.len
    have q2 := hpap2.len
    have q3 := hpap.hlen
    have q4 := hpap2.hlen
    refine go_par (Pa := IsA [.d (.list (tsD (row ++ row2))), .d (.list (hsD (hs ++ hs2)))]) (ea_cons (ev_op (ev_var rfl) (ev_var rfl) (rv_catRL (by omega))) (ea_one (ev_catH (ev_var rfl) (ev_var rfl) (by omega)))) fun ws e => ⟨_, _, e, ?_⟩
    exact go_next (nx _ ⟨_, _, _, _, pap_both hpap hpap2, rfl⟩)
  · exact go_next (nx _ ⟨row, hs, none, none, pap_mono hpap (by decide) (by decide) (by decide), rfl⟩)
  rintro ds' ⟨row, hs, s3, s4, hpap, rfl⟩
  have q1 := hpap.len
  have q3 := hpap.hlen
  refine go_ifJ (fun ds' => ∃ (row : Row) (hs : List HS), PapOk 10 50 2 row hs ∧ ∃ s3 s4 s5 s6 s7 : Option Da, ds' = [some (.v (.ref b)), some (.d (.list (tsD row))), some (.d (.list (hsD hs))), s3, s4, s5, s6, s7]) (et_any (ev_deq (ev_take0 (n := 3) rfl (by decide) (by decide)))) (fun _ D' _ nx => ?_) (fun _ D' _ nx => ?_) ?_
  · refine go_par3 (ean3 (ec_law_short_word (ea_one (ev_var rfl))) ((ev_bsub ((ev_take0 (n := 5) rfl (by decide) (by decide)).imp fun w h => h.bt) (ev_ival ev_int)).imp fun w h => h.mono (c := -2) (d := 2) (by decide) (by decide)) ((ev_bsub ((ev_take0 (n := 9) rfl (by decide) (by decide)).imp fun w h => h.bt) (ev_ival ev_int)).imp fun w h => h.mono (c := -4) (d := 4) (by decide) (by decide))) ?_
    rintro ws ⟨_, _, _, ⟨x, rfl, hx, x1, x2⟩, ⟨p, rfl, p1, p2⟩, ⟨q, rfl, g1, g2⟩, rfl⟩
    refine ⟨_, _, _, rfl, ?_⟩
    apply go_set (w := .d (.list (tsD ([(x, p, q)] ++ row ++ [(x, -p, -q)]))))
    · refine ev_op (ev_op (ev_rL1 (ea_one (ev_tD ?_))) (ev_var rfl) (rv_catRL ?_)) (ev_rL1 (ea_one (ev_tD ?_))) (rv_catRL ?_)
      · walk_at "ea"
      · simp; omega
      · walk_at "ea"
      · simp; omega
    apply go_set (w := .d (.list (hsD (hs.map (mov 1) ++ [(.join, [0]), (.out, [0])]))))
    · refine ev_catH (ec_law_moved (n := 1) (ea_cons (ev_var rfl) (ea_one ev_int)) (by omega) fun s hs' => ?_) (ev_h2 (ev_hD2 (k := .join) (ea_cons ev_str (ea_one ev_int))) (ev_hD2 (k := .out) (ea_cons ev_str (ea_one ev_int)))) ?_
      · have := hob_len (hpap.hok s hs')
        exact ⟨this.1, by omega⟩
      · rw [List.length_map]
        show _ + 2 ≤ _
        omega
    exact go_next (nx _ ⟨_, _, pap_mono (pap_in hpap hx x1 x2 p1 p2 g1 g2) (by decide) (by decide) (by decide), _, _, _, _, _, rfl⟩)
  · exact go_next (nx _ ⟨row, hs, pap_mono hpap (by decide) (by decide) (by decide), _, _, _, _, _, rfl⟩)
  rintro ds' ⟨row, hs, hpap, s3, s4, s5, s6, s7, rfl⟩
  exact go_ret R (P := Is (.d (.tuple [.list (tsD row), .list (hsD hs)]))) (ev_pap (ev_var rfl) (ev_var rfl)) fun w e => ⟨_, _, e, hpap⟩
theorem ec_law_papers {b : Addr} (h : EvA K (some b) ta ds (IsA [.v (.ref b)])) : Ev K (some b) (tCall (sp_law_papers K) [] E0 ta) ds (PapX 10 50 2) := ev_callB () h rfl rfl trivial
end
end Kn

set_option Elab.async false
set_option linter.all false
set_option maxRecDepth 100000
set_option maxHeartbeats 4000000
/-! Steps one of which is otherwise. -/
namespace Kn
open PySem PySem.Spec PyProof.Rows L2
local macro_rules | `(tactic| walk_at "sd") => `(tactic| first | trivial | assumption | walk_at "sz")
local macro_rules | `(tactic| walk_at "sz") => `(tactic| first | assumption | decide | omega | rfl | (simp only [List.length_append, List.length_map, List.length_cons, List.length_nil, List.length_reverse]; omega))
local macro_rules | `(tactic| walk_at "rv") => `(tactic| with_reducible first
  | exact rv_ix0 | exact rv_ix1 | exact rv_ix2 | exact rv_eqI | exact rv_neI | exact rv_eqE | exact rv_neE | exact rv_eqW | exact rv_neW | exact rv_eqS | exact rv_neS
  | exact rv_int0 | exact rv_bl0
  | exact rv_ixT0 | exact rv_ixT1
  | exact rv_ixRT (by assumption) | exact rv_ixRL (by assumption) | (apply rv_ixW; walk_at "sz"; assumption)
  | (refine rv_addW ?_; walk_at "sz")
  | (refine rv_catRT ?_; walk_at "sz") | (refine rv_catRL ?_; walk_at "sz")
  | (refine rv_intC ?_; assumption) | (apply rv_mulW; walk_at "sz"; walk_at "sz"; walk_at "sz")
  | exact rv_inW | exact rv_inSign | exact rv_isN | exact rv_notN | exact rv_notBl
  | exact rv_ixT (by with_unfolding_all rfl) | exact rv_ixL (by with_unfolding_all rfl)
  | exact rv_ixT (by assumption) | exact rv_ixL (by assumption)
  | (refine rv_catA ?_; walk_at "sz") | (refine rv_cat ?_; walk_at "sz"))
local macro_rules | `(tactic| walk_at "rs") => `(tactic| with_reducible first
  | exact rs_rT | exact rs_rL
  | (refine rs_w ?_ ?_; walk_at "sz"; (with_unfolding_all first | exact Nat.zero_le _ | exact HT.sIx_le _ _ (Nat.zero_le _) _ | assumption))
  | exact rs_tup | exact rs_list
  | (refine rs_str ?_; walk_at "sz"))
local macro_rules | `(tactic| walk_at "rc") => `(tactic| with_reducible first
  | exact rc_lenD3 | exact rc_lenRT | exact rc_lenRL | exact rc_lenT | exact rc_lenL | (refine rc_lenW ?_; walk_at "sz") | (refine rc_lenS ?_; walk_at "sz")
  | exact rc_isi (kit_int _) | exact rc_isi (kit_bool _) | exact rc_isi (kit_str _) | exact rc_isi (kit_tup _)
  | exact rc_max | exact rc_min | exact rc_int | exact rc_abs | exact rc_all | exact rc_tupL | exact rc_tupT | exact rc_list | exact rc_listT | (refine rc_listW ?_; walk_at "sz"))
local macro_rules | `(tactic| walk_at "rm") => `(tactic| first | (with_reducible apply rm_lowW; assumption; walk_at "sz") | (with_reducible apply rm_upW; assumption; walk_at "sz"))
local macro_rules | `(tactic| walk_at "ea") => `(tactic| first
  | with_reducible exact ea_nil
  | ((with_reducible apply ea_cons); walk_at "ev"; walk_at "ea"))
local macro_rules | `(tactic| walk_at "eo") => `(tactic| first
  | with_reducible exact eo_none
  | ((with_reducible apply eo_some); walk_at "ev"))
local macro_rules | `(tactic| walk_at "et") => `(tactic| first
  | ((with_reducible apply et_test); walk_at "ev")
  | ((with_reducible apply et_B); walk_at "ev")
  | ((with_reducible apply et_not); walk_at "et")
  | ((with_reducible apply et_and); walk_at "et"; intro _; walk_at "et")
  | ((with_reducible apply et_or); walk_at "et"; intro _; walk_at "et"))
local macro_rules | `(tactic| walk_at "ev") => `(tactic| first
  | with_reducible exact ev_int | with_reducible exact ev_str | with_reducible exact ev_bl | with_reducible exact ev_non | with_reducible exact ev_val
  | ((with_reducible apply ev_var); exact rfl)
  | ((with_reducible apply ev_op); walk_at "ev"; walk_at "ev"; walk_at "rv")
  | ((with_reducible apply ev_un); walk_at "ev"; exact ru_neg)
  | ((with_reducible apply ev_and); walk_at "ev"; intro _; walk_at "ev")
  | ((with_reducible apply ev_or); walk_at "ev"; intro _; walk_at "ev")
  | ((with_reducible apply ev_not); walk_at "ev")
  | ((with_reducible apply ev_sl); walk_at "ev"; walk_at "eo"; walk_at "eo"; walk_at "rs")
  | ((with_reducible apply ev_chain); walk_at "ev"; walk_at "ev"; walk_at "rv"; (intro _; walk_at "ev"); (intro _; walk_at "rv"))
  | walk_at "ec"
  | ((with_reducible apply ev_if); walk_at "et"; (intro _; walk_at "ev"); (intro _; walk_at "ev"))
  | ((with_reducible apply ev_m0); walk_at "ev"; walk_at "rm")
  | ((with_reducible apply ev_cb); walk_at "ea"; walk_at "rc")
  | ((with_reducible apply ev_tD); walk_at "ea")
  | with_reducible exact ev_rT0 | with_reducible exact ev_rL0
  | ((with_reducible apply ev_rT1); walk_at "ea") | ((with_reducible apply ev_rT2); walk_at "ea") | ((with_reducible apply ev_rT3); walk_at "ea")
  | ((with_reducible apply ev_rL1); walk_at "ea") | ((with_reducible apply ev_rL2); walk_at "ea") | ((with_reducible apply ev_rL3); walk_at "ea") | ((with_reducible apply ev_rL4); walk_at "ea")
  | ((with_reducible apply ev_revW); walk_at "ev"; walk_at "sz")
  | ((with_reducible apply ev_revL); walk_at "ev")
  | ((with_reducible apply ev_revT); walk_at "ev"))
local macro_rules | `(tactic| walk_at "ret") => `(tactic| (apply go_retE; assumption; exact rfl; walk_at "ev"))
local macro_rules | `(tactic| walk_at "if") => `(tactic| (apply go_if; walk_at "et"))
local macro_rules | `(tactic| walk_at "set") => `(tactic| (apply go_set; walk_at "ev"))
local macro_rules | `(tactic| walk_at "eg") => `(tactic| first | exact eg_name (by decide) | exact eg_tD (by decide) (by decide) (by decide))
/-- steps: at most n, at most s of them splits -/
def LX (n s : Nat) (w : Da) : Prop := ∃ l : List PyData, w = .d (.list l) ∧ (∀ d ∈ l, StOk d) ∧ l.length ≤ n ∧ nsp l ≤ s
section
variable {K K' : PySem.W.Frag} {r : Res} {ds : Sl} {P : Da → Prop} {ta tb tc te te0 : TE} {tt : TT}
theorem ev_catX {n s n' s' : Nat} (ha : Ev K r ta ds (LX n s)) (hb : Ev K r tb ds (LX n' s')) (h : n + n' ≤ 1000) : Ev K r (tOp rCat ta tb) ds (LX (n + n') (s + s')) := evn_op ha fun x ⟨l1, e1, a1, a2, a3⟩ => ⟨_, hb, fun y ⟨l2, e2, b1, b2, b3⟩ => by
  subst e1; subst e2
  exact fun F H v w o f hv hw Q q => rv_cat (by omega) F H v w o f hv hw Q fun u H2 z ez s rx => q u H2 z ⟨l1 ++ l2, ez, fun d hd => (List.mem_append.mp hd).elim (a1 d) (b1 d), by rw [List.length_append]; omega, by rw [nsp_app]; omega⟩ s rx⟩
theorem cutP_sub (l : List PyData) (lo hi : Option Int) : (cutP l lo hi).Sublist l := (List.take_sublist _ _).trans (List.drop_sublist _ _)
theorem nsp_sub {a b : List PyData} (h : a.Sublist b) : nsp a ≤ nsp b := (h.filter _).length_le
theorem ev_one (ha : Ev K r ta ds (fun w => ∃ x, StOk x ∧ w = .d x)) : Ev K r (tLst (tCons ta tNil)) ds (LX 1 1) := evn_lst (ean1 ha) fun ws ⟨x, ⟨y, hy, e⟩, e2⟩ => ⟨[y], by rw [e2, e]; rfl, by simp, [y], rfl, fun d hd => by rw [List.mem_singleton.mp hd]; exact hy, Nat.le_refl _, nsp_le [y]⟩
end
theorem cutP_all {xs : List PyData} {lo hi : Option Int} (h : xs.all flatI = true) : (cutP xs lo hi).all flatI = true := List.all_eq_true.mpr fun x hx => List.all_eq_true.mp h x ((cutP_sub xs lo hi).subset hx)
theorem cutP_len {xs : List PyData} {lo hi : Option Int} : (cutP xs lo hi).length ≤ xs.length := (cutP_sub xs lo hi).length_le
theorem LX_mono {n s n' s' : Nat} {w : Da} (h : LX n s w) (h1 : n ≤ n') (h2 : s ≤ s') : LX n' s' w := by
  obtain ⟨l, e, a, b, c⟩ := h
  exact ⟨l, e, a, by omega, by omega⟩
def words13 : List PyData := [.str (Str.ofString "out"), .str (Str.ofString "turn"), .str (Str.ofString "join"), .str (Str.ofString "split"), .str (Str.ofString "cut"), .str (Str.ofString "glue"), .str (Str.ofString "undo"), .str (Str.ofString "back"), .str (Str.ofString "open"), .str (Str.ofString "root"), .str (Str.ofString "Out"), .str (Str.ofString ""), .none]
theorem words_flat : ∀ x ∈ words13, flatI x = true := fun x hx => by
  simp only [words13, List.mem_cons, List.not_mem_nil, or_false] at hx
  rcases hx with rfl | rfl | rfl | rfl | rfl | rfl | rfl | rfl | rfl | rfl | rfl | rfl | rfl <;> decide +kernel
def odds (xs : List PyData) : List PyData := [.list xs, .tuple (xs ++ [.int 0]), .tuple (cutP xs none (some (-1))), .tuple (cutP xs none (some 1) ++ [.bool true] ++ cutP xs (some 2) none), .none, .tuple (cutP xs none (some 1) ++ [.none] ++ cutP xs (some 2) none), .tuple []]
theorem hsh_lay (l : List HS) : SeqAt.shaped (.list (hsD l)) = true := by
  have key : PyData.canLayAll0 (hsD l) = true ∧ PyData.depthAll (hsD l) ≤ 1 := by
    induction l with
    | nil => exact ⟨by simp [hsD, PyData.canLayAll0], by simp [hsD, PyData.depthAll]⟩
    | cons h l ih =>
      obtain ⟨k, as⟩ := h
      have hi : PyData.canLayAll0 (as.map PyData.int) = true ∧ PyData.depthAll (as.map PyData.int) = 0 := by
        induction as with
        | nil => exact ⟨by simp [PyData.canLayAll0], by simp [PyData.depthAll]⟩
        | cons a as ih2 => exact ⟨by simpa [PyData.canLayAll0, PyData.canLay0] using ih2.1, by simpa [PyData.depthAll, PyData.depth] using ih2.2⟩
      have hk : PyData.strOk k.name = true := names_lay _ (names_kd k)
      have h1' : PyData.canLayAll0 (List.map hD l) = true := ih.1
      have h2' : PyData.depthAll (List.map hD l) ≤ 1 := ih.2
      have hd : PyData.depth (hD (k, as)) = 1 := by simp [hD, PyData.depth, PyData.depthAll, hi.2]
      refine ⟨by simp [hsD, hD, PyData.canLayAll0, PyData.canLay0, hk, hi.1, h1'], ?_⟩
      simp only [hsD, List.map_cons, PyData.depthAll, hd]
      omega
  unfold SeqAt.shaped
  rw [Bool.and_eq_true]
  exact ⟨by simpa [PyData.canLay0] using key.1, decide_eq_true (by simp only [PyData.depth]; omega)⟩
section
variable {P : Program} {w w' : World} {K K' : PySem.W.Frag} {mg : Str → Option Value} {base : Heap} {r : Res} {ds : Sl} {ta : TA}
def sp_law_bent (K : PySem.W.Frag) : Sp := spB K (fun hs : List HS => [.d (.list (hsD hs))]) (fun hs => hs ≠ [] ∧ hs.length ≤ 50 ∧ (∀ h ∈ hs, HOB 110 h) ∧ nsH hs ≤ 2) fun _ => LX 152 6
-- slots: 0=_law_bag_here 1=_law_steps 2=_law_at 3=_law_kind 4=_law_step 5=_law_spot 6=_law_words 7=_law_odd
theorem sc_law_bent : FnScope ["_law_bag_here", "_law_steps", "_law_at", "_law_kind", "_law_step", "_law_spot", "_law_words", "_law_odd"] ["_law_bag_here", "_law_steps"] (defScope s_law_bent) := C8.fnScope_by (by decide +kernel)
theorem c_law_bent (T : Tx K mg w) : Cal P w K mg base 3 "_law_bent" ["_law_bag_here", "_law_steps"] (sp_law_bent K) := by
  refine calG T.e_law_bent T.g_law_bent sc_law_bent (fun _ _ _ _ _ _ us hl => match us, hl with | [_, _], _ => rfl) (fun _ _ => rfl) fun f cdv A outer s H E hr => ?_
  refine ⟨_, (pss_cons (ps_if (pt_cmpR (op_eqD hr.units) (pv 1) (pe_lst pa_nil) (nomark _)) (pss_cons (ps_ret (pe_lst (pa_cons (pe_c (c_law_of T) hr (by decide) (by rfl) (pa_cons (pv 0) (pa_cons (pe_lst (pa_cons (pe_tup (pa_cons pe_str (pa_cons pe_int pa_nil))) (pa_cons (pe_tup (pa_cons pe_str (pa_cons pe_int pa_nil))) (pa_cons (pe_tup (pa_cons pe_str (pa_cons pe_int pa_nil))) (pa_cons (pe_tup pa_nil) (pa_cons pe_non (pa_cons (pe_tup (pa_cons pe_str (pa_cons pe_int (pa_cons pe_int (pa_cons pe_int pa_nil))))) pa_nil))))))) pa_nil))) pa_nil)))
    pss_nil) pss_nil)
    (pss_cons (ps_par (i := 2) (j := 3) rfl sc_law_bent.nd rfl rfl (by decide) rfl rfl (pa_cons (pe_c (c_law_take T) hr (by decide) (by rfl) (pa_cons (pv 0) (pa_cons (pe_callB call_len_seq (by rfl) T.f_len PySem.boot_len (pa_cons (pv 1) pa_nil)) pa_nil))) (pa_cons (pe_c (c_law_take T) hr (by decide) (by rfl) (pa_cons (pv 0) (pa_cons pe_int pa_nil))) pa_nil)) (by rfl))
    (pss_cons (ps_set (i := 4) sc_law_bent.nd rfl (Or.inl rfl) (pe_ix ix_list (pv 1) (pv 2) (fun _ _ => rfl)))
    (pss_cons (ps_if (pt_cmpR op_lt (pv 3) pe_int (nomark _)) (pss_cons (ps_set (i := 5) sc_law_bent.nd rfl (Or.inl rfl) (pe_op op_add pe_int (pe_c (c_law_take T) hr (by decide) (by rfl) (pa_cons (pv 0) (pa_cons (pe_op op_sub (pe_callB call_len_seq (by rfl) T.f_len PySem.boot_len (pa_cons (pv 4) pa_nil)) pe_int) pa_nil)))))
    (pss_cons (ps_set (i := 4) sc_law_bent.nd rfl (Or.inl rfl) (pe_op op_catA (pe_op op_catA (pe_slice sl_tupA (pv 4) po_none (po_some (pv 5))) (pe_tup (pa_cons (pe_op op_add (pe_ix ix_tup (pv 4) (pv 5) (fun _ _ => rfl)) (pe_c (c_law_of T) hr (by decide) (by rfl) (pa_cons (pv 0) (pa_cons (pe_lst (pa_cons pe_int (pa_cons (pe_un un_neg pe_int) (pa_cons pe_int (pa_cons (pe_op op_pow pe_int pe_int) pa_nil))))) pa_nil)))) pa_nil))) (pe_slice sl_tupA (pv 4) (po_some (pe_op op_add (pv 5) pe_int)) po_none)))
    (pss_cons (ps_ret (pe_op op_cat (pe_op op_cat (pe_slice sl_list (pv 1) po_none (po_some (pv 2))) (pe_lst (pa_cons (pv 4) pa_nil))) (pe_slice sl_list (pv 1) (po_some (pe_op op_add (pv 2) pe_int)) po_none)))
    pss_nil))) pss_nil)
    (pss_cons (ps_if (pt_cmpR op_lt (pv 3) pe_int (nomark _)) (pss_cons (ps_ret (pe_op op_cat (pe_op op_cat (pe_slice sl_list (pv 1) po_none (po_some (pv 2))) (pe_ix ix_list (pe_lst (pa_cons (pe_lst pa_nil) (pa_cons (pe_lst (pa_cons (pv 4) (pa_cons (pv 4) pa_nil))) (pa_cons (pe_revL (pe_slice sl_list (pv 1) (po_some (pv 2)) (po_some (pe_op op_add (pv 2) pe_int)))) pa_nil)))) (pe_op op_sub (pv 3) pe_int) (fun _ _ => rfl))) (pe_slice sl_list (pv 1) (po_some (pe_op op_add (pv 2) (pe_ifExp (pt_cmpR op_eq (pv 3) pe_int (nomark _)) pe_int pe_int))) po_none)))
    pss_nil) pss_nil)
    (pss_cons (ps_if (pt_cmpR op_eq (pv 3) pe_int (nomark _)) (pss_cons (ps_set (i := 6) sc_law_bent.nd rfl (Or.inl rfl) (pe_lst (pa_cons pe_str (pa_cons pe_str (pa_cons pe_str (pa_cons pe_str (pa_cons pe_str (pa_cons pe_str (pa_cons pe_str (pa_cons pe_str (pa_cons pe_str (pa_cons pe_str (pa_cons pe_str (pa_cons pe_str (pa_cons pe_non pa_nil)))))))))))))))
    (pss_cons (ps_ret (pe_op op_cat (pe_op op_cat (pe_slice sl_list (pv 1) po_none (po_some (pv 2))) (pe_lst (pa_cons (pe_op op_catA (pe_tup (pa_cons (pe_c (c_law_of T) hr (by decide) (by rfl) (pa_cons (pv 0) (pa_cons (pv 6) pa_nil))) pa_nil)) (pe_slice sl_tupA (pv 4) (po_some pe_int) po_none)) pa_nil))) (pe_slice sl_list (pv 1) (po_some (pe_op op_add (pv 2) pe_int)) po_none)))
    pss_nil)) pss_nil)
    (pss_cons (ps_set (i := 7) sc_law_bent.nd rfl (Or.inl rfl) (pe_lst (pa_cons (pe_callTy call_list_of (by rfl) T.f_list (by decide +kernel) (pa_cons (pv 4) pa_nil)) (pa_cons (pe_op op_catA (pv 4) (pe_tup (pa_cons pe_int pa_nil))) (pa_cons (pe_slice sl_tupA (pv 4) po_none (po_some (pe_un un_neg pe_int))) (pa_cons (pe_op op_catA (pe_op op_catA (pe_slice sl_tupA (pv 4) po_none (po_some pe_int)) (pe_tup (pa_cons pe_bl pa_nil))) (pe_slice sl_tupA (pv 4) (po_some pe_int) po_none)) (pa_cons pe_non (pa_cons (pe_op op_catA (pe_op op_catA (pe_slice sl_tupA (pv 4) po_none (po_some pe_int)) (pe_tup (pa_cons pe_non pa_nil))) (pe_slice sl_tupA (pv 4) (po_some pe_int) po_none)) (pa_cons (pe_tup pa_nil) pa_nil)))))))))
    (pss_cons (ps_ret (pe_op op_cat (pe_op op_cat (pe_slice sl_list (pv 1) po_none (po_some (pv 2))) (pe_lst (pa_cons (pe_c (c_law_of T) hr (by decide) (by rfl) (pa_cons (pv 0) (pa_cons (pv 7) pa_nil))) pa_nil))) (pe_slice sl_list (pv 1) (po_some (pe_op op_add (pv 2) pe_int)) po_none)))
    pss_nil)))))))), ?_⟩
  intro a r F0 H0 D hp R
  dsimp only [nox_K]
  obtain ⟨hr1, hne, hl, hok, hsp⟩ := hp
  obtain ⟨b, rfl⟩ := Option.isSome_iff_exists.mp hr1
  have hlen : (hsD a).length = a.length := List.length_map _
  have hpos : 0 < a.length := by
    cases a with
    | nil => exact absurd rfl hne
    | cons => rw [List.length_cons]; omega
  have hstok : ∀ d ∈ hsD a, StOk d := fun d hd => by
    obtain ⟨h, hh, rfl⟩ := List.mem_map.mp hd
    exact stok_h (hok h hh) (by decide)
  have cutX : ∀ lo hi, LX 50 2 (.d (.list (cutP (hsD a) lo hi))) := fun lo hi => ⟨_, rfl, fun d hd => hstok d ((cutP_sub _ _ _).subset hd), Nat.le_trans cutP_len (by omega), Nat.le_trans (nsp_sub (cutP_sub _ _ _)) (by rw [nsp_h]; exact hsp)⟩
  refine go_ifF ?_ (go_skip ?_)
  · exact et_is (et_test (ev_op (x := .d (.list (hsD a))) (y := .d (.list [])) (ev_var rfl) (ev_lst (xs := []) ea_nil (by simp)) (rv_eqD rfl (hsh_lay a) rfl))) (by rw [eqv_nilL]; cases a with
      | nil => exact absurd rfl hne
      | cons => rfl)
  refine go_par (Pa := fun ws => ∃ x y, Dr a.length x ∧ Dr 7 y ∧ ws = [x, y]) (ean2 (ec_law_take (n := a.length) (ea_cons (ev_var rfl) (ea_one (ev_is (ev_cb (ea_one (ev_var rfl)) rc_lenL) (by rw [hlen])))) hpos (by omega)) (ev_take0 (n := 7) rfl (by decide) (by decide))) ?_
  rintro ws ⟨_, _, ⟨at_, rfl, hat⟩, ⟨kd, rfl, hkd⟩, rfl⟩
  refine ⟨_, _, rfl, ?_⟩
  have hm : a[at_] ∈ a := List.getElem_mem _
  have hx : atI (hsD a) ((at_ : Nat) : Int) = some (hD a[at_]) := atI_map (atI_nat hat)
  have hob := hok _ hm
  have hst := stok_h hob (by decide)
  generalize a[at_] = h at hm hx hob hst
  obtain ⟨k, as⟩ := h
  obtain ⟨has1, has2⟩ := hob_len hob
  dsimp only at has1 has2
  have hd : hD (k, as) = .tuple (.str k.name :: as.map PyData.int) := rfl
  rw [hd] at hx hst
  generalize hxs : (PyData.str k.name :: as.map PyData.int) = xs at hx hst
  have xlen : xs.length = as.length + 1 := by rw [← hxs, List.length_cons, List.length_map]
  have xfl : xs.all flatI = true := hst.2
  have asl : 1 ≤ as.length := by
    cases as with
    | nil => exact absurd rfl has1
    | cons => rw [List.length_cons]; omega
  apply go_set (w := .d (.tuple xs)) (ev_op (ev_var rfl) (ev_var rfl) (rv_ixL hx))
  apply go_if (b := decide (((kd : Nat) : Int) < 2))
  · walk_at "et"
  · intro _
    apply go_assoc
    refine go_asg (P := fun w => ∃ n : Nat, w = .d (.int (n : Nat)) ∧ 1 ≤ n ∧ n ≤ as.length) ((ev_badd (ev_ival ev_int) ((ec_law_take (n := as.length) (ea_cons (ev_var rfl) (ea_one (ev_is (ev_op (ev_cb (ea_one (ev_var rfl)) rc_lenT) ev_int rv_int0) (by rw [xlen]; show Da.d (.int (((as.length + 1 : Nat) : Int) - 1)) = _; rw [show ((as.length + 1 : Nat) : Int) - 1 = ((as.length : Nat) : Int) by omega])))) (by omega) (by omega)).imp fun w h => h.bt)).imp fun w ⟨i, e, g1, g2⟩ => ⟨i.toNat, by rw [Int.toNat_of_nonneg (by omega)]; exact e, by omega, by omega⟩) fun w ⟨sp, ew, s1, s2⟩ => ?_
    subst ew
    obtain ⟨iv, hiv, hib⟩ : ∃ i : Int, atI xs ((sp : Nat) : Int) = some (.int i) ∧ -110 ≤ i ∧ i ≤ 110 := by
      obtain ⟨m, rfl⟩ : ∃ m, sp = m + 1 := ⟨sp - 1, by omega⟩
      rw [atI_nat (by omega)]
      refine ⟨as[m], ?_, hob.2 _ (List.getElem_mem _)⟩
      subst hxs
      simp
    apply go_assoc
    refine go_asg (P := fun w => ∃ x, StOk x ∧ w = .d x) (evn_op (Pa := fun w => ∃ ys, w = .d (.tuple ys) ∧ ys.length ≤ 10 ∧ ys.all flatI = true) (evn_op (ev_is (ev_sl (ev_var rfl) eo_none (eo_some (ev_var rfl)) rs_tup) rfl) fun x ex => ⟨fun w => ∃ z : Int, w = .d (.tuple [.int z]) ∧ z.natAbs < 2 ^ 200, evn_tup (ean1 (evn_ii (P := fun w => ∃ z : Int, w = .d (.int z) ∧ z.natAbs < 2 ^ 200) (ev_op (ev_var rfl) (ev_var rfl) (rv_ixT hiv)) (ec_law_of (xs := [.int 1, .int (-1), .int 2, .int (10 ^ 30)]) (ea_cons (ev_var rfl) (ea_one (ev_lst (xs := [.int 1, .int (-1), .int 2, .int (10 ^ 30)]) (ea_cons ev_int (ea_cons (ev_un ev_int ru_neg) (ea_cons ev_int (ea_one (ev_is (ev_op ev_int ev_int (rv_intC (C := CPow) ⟨by decide, by decide, by decide⟩)) rfl))))) (by simp)))) (by simp) (by simp)) ?_)) ?_, fun y ey => ?_⟩) fun x ex => ⟨fun w => ∃ ys, w = .d (.tuple ys) ∧ ys.length ≤ 10 ∧ ys.all flatI = true, ?_, fun y ey => ?_⟩) fun w ⟨x, hxo, ew⟩ => ?_
    · rintro _ _ rfl ⟨x, hx', rfl⟩
      simp only [List.mem_cons, List.not_mem_nil, or_false] at hx'
      have big : ∀ z : Int, -(10 ^ 30) - 200 ≤ z → z ≤ 10 ^ 30 + 200 → z.natAbs < 2 ^ 200 := fun z h1 h2 => Nat.lt_of_le_of_lt (show z.natAbs ≤ 10 ^ 30 + 200 by omega) (by decide)
      rcases hx' with rfl | rfl | rfl | rfl
      · exact ⟨iv, 1, rfl, rfl, _, rfl, big _ (by omega) (by omega)⟩
      · exact ⟨iv, -1, rfl, rfl, _, rfl, big _ (by omega) (by omega)⟩
      · exact ⟨iv, 2, rfl, rfl, _, rfl, big _ (by omega) (by omega)⟩
      · exact ⟨iv, 10 ^ 30, rfl, rfl, _, rfl, big _ (by omega) (by omega)⟩
    · rintro ws ⟨_, ⟨z, rfl, hz⟩, rfl⟩
      exact ⟨[.int z], rfl, by simp, z, rfl, hz⟩
    · obtain ⟨z, rfl, hz⟩ := ey
      subst ex
      have l1 := cutP_len (xs := xs) (lo := none) (hi := some ((sp : Nat) : Int))
      exact fun F H v w o f hv hw Q q => rv_catA (by show _ + 1 ≤ _; omega) rfl F H v w o f hv hw Q fun u H2 y ey s rx => q u H2 y ⟨_, ey, by rw [List.length_append]; show _ + 1 ≤ _; omega, by rw [List.all_append, cutP_all xfl]; show (flatI (.int z) && true) = true; rw [Bool.and_true]; exact decide_eq_true hz⟩ s rx
    · exact (ev_sl (w := .d (.tuple xs)) (ev_var rfl) (eo_some (ev_op (ev_var rfl) ev_int rv_int0)) eo_none rs_tup).imp fun w e => ⟨_, e, Nat.le_trans cutP_len (by omega), cutP_all xfl⟩
    · obtain ⟨y1, rfl, g1, g2⟩ := ex
      obtain ⟨y2, rfl, g3, g4⟩ := ey
      exact fun F H v w o f hv hw Q q => rv_catA (by omega) rfl F H v w o f hv hw Q fun u H2 y ey s rx => q u H2 y ⟨.tuple (y1 ++ y2), ⟨by rw [List.length_append]; omega, by rw [List.all_append, g2, g4]; rfl⟩, ey⟩ s rx
    · subst ew
      apply go_assoc
      refine go_ret R (P := LX 152 6) ((ev_catX (n := 51) (s := 3) (n' := 50) (s' := 2) (ev_catX (n := 50) (s := 2) (n' := 1) (s' := 1) ((ev_sl (w := .d (.list (hsD a))) (ev_var rfl) eo_none (eo_some (ev_var rfl)) rs_list).imp fun w e => by rw [e]; exact cutX _ _) (ev_one ((ev_var rfl).imp fun w e => ⟨x, hxo, e⟩)) (by decide)) ((ev_sl (w := .d (.list (hsD a))) (ev_var rfl) (eo_some (ev_op (ev_var rfl) ev_int rv_int0)) eo_none rs_list).imp fun w e => by rw [e]; exact cutX _ _) (by decide)).imp fun w h => LX_mono h (by decide) (by decide)) fun w e => e
  intro e2
  apply go_skip
  have hkd2 : 2 ≤ kd := by have := of_decide_eq_false e2; omega
  apply go_if (b := decide (((kd : Nat) : Int) < 5))
  · walk_at "et"
  · intro e5
    have hkd5 : kd < 5 := by have := of_decide_eq_true e5; omega
    have mid : ∀ d : PyData, atI [.list [], .list [.tuple xs, .tuple xs], .list (cutP (hsD a) (some ((at_ : Nat) : Int)) (some (((at_ : Nat) : Int) + 2))).reverse] (((kd : Nat) : Int) - 2) = some d → LX 50 2 (.d d) := fun d hd' => by
      have hmem := atI_mem hd'
      simp only [List.mem_cons, List.not_mem_nil, or_false] at hmem
      rcases hmem with rfl | rfl | rfl
      · exact ⟨[], rfl, fun d h => (nomatch h), Nat.zero_le _, Nat.zero_le _⟩
      · exact ⟨_, rfl, fun d h => (List.mem_cons.mp h).elim (fun e => (by rw [e]; exact hst)) (fun e => (by rw [List.mem_singleton.mp e]; exact hst)), by simp, nsp_le [_, _]⟩
      · obtain ⟨l, e, g1, g2, g3⟩ := cutX (some ((at_ : Nat) : Int)) (some (((at_ : Nat) : Int) + 2))
        cases e
        refine ⟨_, rfl, fun d h => g1 d (List.mem_reverse.mp h), by rw [List.length_reverse]; exact g2, ?_⟩
        unfold nsp at g3 ⊢
        rw [List.filter_reverse, List.length_reverse]
        exact g3
    obtain ⟨d, hd'⟩ : ∃ d, atI [PyData.list [], .list [.tuple xs, .tuple xs], .list (cutP (hsD a) (some ((at_ : Nat) : Int)) (some (((at_ : Nat) : Int) + 2))).reverse] (((kd : Nat) : Int) - 2) = some d := by
      have h := atI_ex (l := [PyData.list [], .list [.tuple xs, .tuple xs], .list (cutP (hsD a) (some ((at_ : Nat) : Int)) (some (((at_ : Nat) : Int) + 2))).reverse]) (i := ((kd : Nat) : Int) - 2) (by omega) (by show _ < ((3 : Nat) : Int); omega)
      obtain ⟨x, hx', _⟩ := h
      exact ⟨x, hx'⟩
    refine go_ret R (P := LX 152 6) ((ev_catX (n := 100) (s := 4) (n' := 50) (s' := 2) (ev_catX (n := 50) (s := 2) (n' := 50) (s' := 2) ((ev_sl (w := .d (.list (hsD a))) (ev_var rfl) eo_none (eo_some (ev_var rfl)) rs_list).imp fun w e => by rw [e]; exact cutX _ _) ((ev_op (x := .d (.list [.list [], .list [.tuple xs, .tuple xs], .list (cutP (hsD a) (some ((at_ : Nat) : Int)) (some (((at_ : Nat) : Int) + 2))).reverse])) (y := .d (.int (((kd : Nat) : Int) - 2))) (ev_lst (xs := [.list [], .list [.tuple xs, .tuple xs], .list (cutP (hsD a) (some ((at_ : Nat) : Int)) (some (((at_ : Nat) : Int) + 2))).reverse]) (ea_cons (ev_lst (xs := []) ea_nil (by simp)) (ea_cons (ev_lst (xs := [.tuple xs, .tuple xs]) (ea_cons (ev_var rfl) (ea_one (ev_var rfl))) (by simp)) (ea_one (ev_revL (ev_sl (w := .d (.list (hsD a))) (ev_var rfl) (eo_some (ev_var rfl)) (eo_some (ev_op (ev_var rfl) ev_int rv_int0)) rs_list))))) (by simp)) (ev_op (ev_var rfl) ev_int rv_int0) (rv_ixL hd')).imp fun w e => by rw [e]; exact mid d hd') (by decide)) (?_) (by decide)).imp fun w h => LX_mono h (by decide) (by decide)) fun w e => e
    refine (ev_sl (w := .d (.list (hsD a))) (ev_var rfl) (eo_some (i := ((at_ : Nat) : Int) + (if (((kd : Nat) : Int) == 4) = true then 2 else 1)) (ev_op (ev_var rfl) (evn_if (Pb := IsB (((kd : Nat) : Int) == 4)) ?_ (fun e => ?_) fun e => ?_) rv_int0)) eo_none rs_list).imp fun w e => by rw [e]; exact cutX _ _
    · walk_at "et"
    · rw [if_pos e.symm]
      exact ev_int
    · rw [if_neg (b_ff e.symm)]
      exact ev_int
  intro e5
  apply go_skip
  apply go_if (b := ((kd : Nat) : Int) == 5)
  · walk_at "et"
  · intro _
    apply go_assoc
    apply go_set (w := .d (.list words13)) (ev_lst (xs := words13) (ea_cons ev_str (ea_cons ev_str (ea_cons ev_str (ea_cons ev_str (ea_cons ev_str (ea_cons ev_str (ea_cons ev_str (ea_cons ev_str (ea_cons ev_str (ea_cons ev_str (ea_cons ev_str (ea_cons ev_str (ea_one ev_non))))))))))))) (by decide))
    apply go_assoc
    refine go_ret R (P := LX 152 6) ((ev_catX (n := 51) (s := 3) (n' := 50) (s' := 2) (ev_catX (n := 50) (s := 2) (n' := 1) (s' := 1) ((ev_sl (w := .d (.list (hsD a))) (ev_var rfl) eo_none (eo_some (ev_var rfl)) rs_list).imp fun w e => by rw [e]; exact cutX _ _) (ev_one (evn_op (Pa := fun w => ∃ x, flatI x = true ∧ w = .d (.tuple [x])) (evn_tup (ean1 (ec_law_of (xs := words13) (ea_cons (ev_var rfl) (ea_one (ev_var rfl))) (by decide) (by decide))) ?_) fun x ex => ⟨_, ev_sl (w := .d (.tuple xs)) (ev_var rfl) (eo_some ev_int) eo_none rs_tup, fun y ey => ?_⟩)) (by decide)) ((ev_sl (w := .d (.list (hsD a))) (ev_var rfl) (eo_some (ev_op (ev_var rfl) ev_int rv_int0)) eo_none rs_list).imp fun w e => by rw [e]; exact cutX _ _) (by decide)).imp fun w h => LX_mono h (by decide) (by decide)) fun w e => e
    · rintro ws ⟨_, ⟨x, hx', rfl⟩, rfl⟩
      exact ⟨[x], rfl, by simp, x, words_flat x hx', rfl⟩
    · obtain ⟨x, hx', rfl⟩ := ex
      subst ey
      have l1 := cutP_len (xs := xs) (lo := some 1) (hi := none)
      exact fun F H v w o f hv hw Q q => rv_catA (by show 1 + _ ≤ _; omega) rfl F H v w o f hv hw Q fun u H2 y ey s rx => q u H2 y ⟨.tuple ([x] ++ cutP xs (some 1) none), ⟨by rw [List.length_append]; show 1 + _ ≤ _; omega, by rw [List.all_append, cutP_all xfl, List.all_cons, hx']; rfl⟩, ey⟩ s rx
  intro _
  apply go_skip
  have l2 := cutP_len (xs := xs) (lo := none) (hi := some 1)
  have l3 := cutP_len (xs := xs) (lo := some 2) (hi := none)
  have l4 := cutP_len (xs := xs) (lo := none) (hi := some (-1))
  have sw : ∀ (z : PyData) (te : TE) (ds : Sl), flatI z = true → ds[4]? = some (some (.d (.tuple xs))) → Ev K (some b) te ds (Is (.d z)) → Ev K (some b) (tOp (rCatA K) (tOp (rCatA K) (L2.tSl (rSlA K) (tVar 4) tNoPart (tPart (tC (.int 1)))) (tTup (tCons te tNil))) (L2.tSl (rSlA K) (tVar 4) (tPart (tC (.int 2))) tNoPart)) ds (Is (.d (.tuple (cutP xs none (some 1) ++ [z] ++ cutP xs (some 2) none)))) := fun z te ds hz h4 he =>
    ev_op (ev_op (ev_sl (ev_var h4) eo_none (eo_some ev_int) rs_tup) (ev_tup (xs := [z]) (ea_one he) (by simp)) (rv_catA (by show _ + 1 ≤ _; omega))) (ev_sl (ev_var h4) (eo_some ev_int) eo_none rs_tup) (rv_catA (by rw [List.length_append]; show _ + 1 + _ ≤ _; omega))
  have swok : ∀ z, flatI z = true → StOk (.tuple (cutP xs none (some 1) ++ [z] ++ cutP xs (some 2) none)) := fun z hz => ⟨by rw [List.length_append, List.length_append]; show _ + 1 + _ ≤ _; omega, by rw [List.all_append, List.all_append, cutP_all xfl, cutP_all xfl, List.all_cons, hz]; rfl⟩
  apply go_set (w := .d (.list (odds xs))) (ev_lst (xs := odds xs) (ea_cons (ev_cb (ea_one (ev_var rfl)) rc_listT) (ea_cons (ev_op (ev_var rfl) (ev_tup (xs := [.int 0]) (ea_one ev_int) (by simp)) (rv_catA (by show _ + 1 ≤ _; omega))) (ea_cons (ev_sl (ev_var rfl) eo_none (eo_some (i := -1) (ev_un ev_int ru_neg)) rs_tup) (ea_cons (sw (.bool true) _ _ rfl rfl ev_bl) (ea_cons ev_non (ea_cons (sw .none _ _ rfl rfl ev_non) (ea_one (ev_tup (xs := []) ea_nil (by simp))))))))) (by simp [odds]))
  refine go_ret R (P := LX 152 6) ((ev_catX (n := 51) (s := 3) (n' := 50) (s' := 2) (ev_catX (n := 50) (s := 2) (n' := 1) (s' := 1) ((ev_sl (w := .d (.list (hsD a))) (ev_var rfl) eo_none (eo_some (ev_var rfl)) rs_list).imp fun w e => by rw [e]; exact cutX _ _) (ev_one ((ec_law_of (xs := odds xs) (ea_cons (ev_var rfl) (ea_one (ev_var rfl))) (by simp [odds]) (by simp [odds])).imp fun w ⟨x, hx', e⟩ => ⟨x, ?_, e⟩)) (by decide)) ((ev_sl (w := .d (.list (hsD a))) (ev_var rfl) (eo_some (ev_op (ev_var rfl) ev_int rv_int0)) eo_none rs_list).imp fun w e => by rw [e]; exact cutX _ _) (by decide)).imp fun w h => LX_mono h (by decide) (by decide)) fun w e => e
  unfold odds at hx'
  simp only [List.mem_cons, List.not_mem_nil, or_false] at hx'
  rcases hx' with rfl | rfl | rfl | rfl | rfl | rfl | rfl
  · exact ⟨by omega, xfl⟩
  · exact ⟨by rw [List.length_append]; show _ + 1 ≤ _; omega, by rw [List.all_append, xfl]; rfl⟩
  · exact ⟨by omega, cutP_all xfl⟩
  · exact swok _ rfl
  · exact trivial
  · exact swok _ rfl
  · exact ⟨by simp, rfl⟩
theorem ec_law_bent {hs : List HS} {b : Addr} (h : EvA K (some b) ta ds (IsA [.v (.ref b), .d (.list (hsD hs))])) (h1 : hs ≠ []) (h2 : hs.length ≤ 50) (h3 : ∀ h ∈ hs, HOB 110 h) (h4 : nsH hs ≤ 2) : Ev K (some b) (tCall (sp_law_bent K) [] E0 ta) ds (LX 152 6) := ev_callB hs h rfl rfl ⟨h1, h2, h3, h4⟩
end
end Kn

set_option Elab.async false
set_option linter.all false
set_option maxRecDepth 100000
set_option maxHeartbeats 4000000
/-! What is asked of accepts. -/
namespace Kn
open PySem PySem.Spec PyProof.Rows L2
local macro_rules | `(tactic| walk_at "sd") => `(tactic| first | trivial | assumption | walk_at "sz")
local macro_rules | `(tactic| walk_at "sz") => `(tactic| first | assumption | decide | omega | rfl | (simp only [List.length_append, List.length_map, List.length_cons, List.length_nil, List.length_reverse]; omega))
local macro_rules | `(tactic| walk_at "rv") => `(tactic| with_reducible first
  | exact rv_ix0 | exact rv_ix1 | exact rv_ix2 | exact rv_eqI | exact rv_neI | exact rv_eqE | exact rv_neE | exact rv_eqW | exact rv_neW | exact rv_eqS | exact rv_neS
  | exact rv_int0 | exact rv_bl0
  | exact rv_ixT0 | exact rv_ixT1
  | exact rv_ixRT (by assumption) | exact rv_ixRL (by assumption) | (apply rv_ixW; walk_at "sz"; assumption)
  | (refine rv_addW ?_; walk_at "sz")
  | (refine rv_catRT ?_; walk_at "sz") | (refine rv_catRL ?_; walk_at "sz")
  | (refine rv_intC ?_; assumption) | (apply rv_mulW; walk_at "sz"; walk_at "sz"; walk_at "sz")
  | exact rv_inW | exact rv_inSign | exact rv_isN | exact rv_notN | exact rv_notBl
  | exact rv_ixT (by with_unfolding_all rfl) | exact rv_ixL (by with_unfolding_all rfl)
  | exact rv_ixT (by assumption) | exact rv_ixL (by assumption)
  | (refine rv_catA ?_; walk_at "sz") | (refine rv_cat ?_; walk_at "sz"))
local macro_rules | `(tactic| walk_at "rs") => `(tactic| with_reducible first
  | exact rs_rT | exact rs_rL
  | (refine rs_w ?_ ?_; walk_at "sz"; (with_unfolding_all first | exact Nat.zero_le _ | exact HT.sIx_le _ _ (Nat.zero_le _) _ | assumption))
  | exact rs_tup | exact rs_list
  | (refine rs_str ?_; walk_at "sz"))
local macro_rules | `(tactic| walk_at "rc") => `(tactic| with_reducible first
  | exact rc_lenD3 | exact rc_lenRT | exact rc_lenRL | exact rc_lenT | exact rc_lenL | (refine rc_lenW ?_; walk_at "sz") | (refine rc_lenS ?_; walk_at "sz")
  | exact rc_isi (kit_int _) | exact rc_isi (kit_bool _) | exact rc_isi (kit_str _) | exact rc_isi (kit_tup _)
  | exact rc_max | exact rc_min | exact rc_int | exact rc_abs | exact rc_all | exact rc_tupL | exact rc_tupT | exact rc_list | exact rc_listT | (refine rc_listW ?_; walk_at "sz"))
local macro_rules | `(tactic| walk_at "rm") => `(tactic| first | (with_reducible apply rm_lowW; assumption; walk_at "sz") | (with_reducible apply rm_upW; assumption; walk_at "sz"))
local macro_rules | `(tactic| walk_at "ea") => `(tactic| first
  | with_reducible exact ea_nil
  | ((with_reducible apply ea_cons); walk_at "ev"; walk_at "ea"))
local macro_rules | `(tactic| walk_at "eo") => `(tactic| first
  | with_reducible exact eo_none
  | ((with_reducible apply eo_some); walk_at "ev"))
local macro_rules | `(tactic| walk_at "et") => `(tactic| first
  | ((with_reducible apply et_test); walk_at "ev")
  | ((with_reducible apply et_B); walk_at "ev")
  | ((with_reducible apply et_not); walk_at "et")
  | ((with_reducible apply et_and); walk_at "et"; intro _; walk_at "et")
  | ((with_reducible apply et_or); walk_at "et"; intro _; walk_at "et"))
local macro_rules | `(tactic| walk_at "ev") => `(tactic| first
  | with_reducible exact ev_int | with_reducible exact ev_str | with_reducible exact ev_bl | with_reducible exact ev_non | with_reducible exact ev_val
  | ((with_reducible apply ev_var); exact rfl)
  | ((with_reducible apply ev_op); walk_at "ev"; walk_at "ev"; walk_at "rv")
  | ((with_reducible apply ev_un); walk_at "ev"; exact ru_neg)
  | ((with_reducible apply ev_and); walk_at "ev"; intro _; walk_at "ev")
  | ((with_reducible apply ev_or); walk_at "ev"; intro _; walk_at "ev")
  | ((with_reducible apply ev_not); walk_at "ev")
  | ((with_reducible apply ev_sl); walk_at "ev"; walk_at "eo"; walk_at "eo"; walk_at "rs")
  | ((with_reducible apply ev_chain); walk_at "ev"; walk_at "ev"; walk_at "rv"; (intro _; walk_at "ev"); (intro _; walk_at "rv"))
  | walk_at "ec"
  | ((with_reducible apply ev_if); walk_at "et"; (intro _; walk_at "ev"); (intro _; walk_at "ev"))
  | ((with_reducible apply ev_m0); walk_at "ev"; walk_at "rm")
  | ((with_reducible apply ev_cb); walk_at "ea"; walk_at "rc")
  | ((with_reducible apply ev_tD); walk_at "ea")
  | with_reducible exact ev_rT0 | with_reducible exact ev_rL0
  | ((with_reducible apply ev_rT1); walk_at "ea") | ((with_reducible apply ev_rT2); walk_at "ea") | ((with_reducible apply ev_rT3); walk_at "ea")
  | ((with_reducible apply ev_rL1); walk_at "ea") | ((with_reducible apply ev_rL2); walk_at "ea") | ((with_reducible apply ev_rL3); walk_at "ea") | ((with_reducible apply ev_rL4); walk_at "ea")
  | ((with_reducible apply ev_revW); walk_at "ev"; walk_at "sz")
  | ((with_reducible apply ev_revL); walk_at "ev")
  | ((with_reducible apply ev_revT); walk_at "ev"))
local macro_rules | `(tactic| walk_at "ret") => `(tactic| (apply go_retE; assumption; exact rfl; walk_at "ev"))
local macro_rules | `(tactic| walk_at "if") => `(tactic| (apply go_if; walk_at "et"))
local macro_rules | `(tactic| walk_at "set") => `(tactic| (apply go_set; walk_at "ev"))
local macro_rules | `(tactic| walk_at "eg") => `(tactic| first | exact eg_name (by decide) | exact eg_tD (by decide) (by decide) (by decide))
section
variable {P : Program} {w w' : World} {K K' : PySem.W.Frag} {mg : Str → Option Value} {base : Heap} {r : Res} {ds : Sl} {ta tk : TA}
theorem ec_accepts {a b : Row} {l : List PyData} (h : EvA K r ta ds (IsA [.d (sameD a b), .d (.tuple l)])) (h1 : Ask a b l) : Ev K r (tCall (sp_accepts K) [] E0 ta) ds (Is (.d (.bool (answer a b l)))) := ev_call (a, b, l) h rfl h1
theorem ev_accK {a b : Row} {l : List PyData} (ha : EvA K r tk ds (IsA [.d (.tuple l), .d (sameD a b)])) (h : Ask a b l) : Ev K r (L2.tCallK (sp_accepts K) gK E0 tNil tk) ds (Is (.d (.bool (answer a b l)))) := fun F σ H o f s Q q => by
  have key : tk σ H (fun zs H2 => sp_accepts K (gK [] zs) H2 Q E0) := by
    refine ha F σ H o f s _ fun zs H1 ws pw s1 rx => ?_
    subst pw
    obtain ⟨z1, z2, rfl, r1, r2⟩ := x2 rx
    exact ⟨(a, b, l), F, r, s1.on, s1.fok f, .cons r2 (.cons r1 .nil), h, fun v H3 w pw2 s3 r3 => q v H3 w pw2 (s1.trans s3) r3⟩
  exact key
/-- steps as a list or a tuple -/
def stD (t : Bool) (l : List PyData) : PyData := if t = true then .tuple l else .list l
theorem ev_tupS {t : Bool} {l : List PyData} {te : TE} (h : Ev K r te ds (Is (.d (stD t l)))) (hK : K' = K := by rfl) : Ev K r (tCB (fun xs H Q => ∃ p ys, xs = [.ref p] ∧ ((SqL K' H p ys ∧ ∀ l, H l = none → Q (.ref l) (upd H l (.tup ys))) ∨ (SqT K' H p ys ∧ Q (.ref p) H))) (tCons te tNil)) ds (Is (.d (.tuple l))) := by
  cases t with
  | true => exact ev_cb (ea_one (show Ev K r te ds (Is (.d (.tuple l))) from h)) (rc_tupT hK)
  | false => exact ev_cb (ea_one (show Ev K r te ds (Is (.d (.list l))) from h)) (rc_tupL hK)
theorem shaped_oL {row : Row} {l : List PyData} (h : Fit row l) : SeqAt.shaped (optL (stps row l)) = true := by
  cases q : stps row l with
  | none => rfl
  | some r1 => exact shaped_L (stps_lw h q)
theorem invR_len (l : Row) : (invR l).length = l.length := by unfold invR; rw [List.length_map, List.length_reverse]
theorem bb (x : Bool) : (PyData.list [.bool x, .bool x]).showable = true ∧ (PyData.list [.bool x, .bool x]).hasDict = false ∧ (PyData.list [.bool x, .bool x]).depth ≤ 60 ∧ (PyData.list [.bool x, .bool x]).shown.length ≤ sizeLine := by
  cases x <;> exact ⟨by decide +kernel, by decide +kernel, by decide +kernel, by decide +kernel⟩
def sp_law_asked_right (K : PySem.W.Frag) : Sp := spP K (fun a : Row × Row × List PyData × Bool => [.d (.list (tsD a.1)), .d (.list (tsD a.2.1)), .d (stD a.2.2.2 a.2.2.1)]) (fun a => Ask a.1 a.2.1 a.2.2.1) fun a => .d (.bool true)
-- slots: 0=_law_mine 1=_law_yours 2=_law_steps 3=_law_asked 4=_law_row 5=_law_due 6=_law_strand 7=_law_by 8=_law_over
theorem sc_law_asked_right : FnScope ["_law_mine", "_law_yours", "_law_steps", "_law_asked", "_law_row", "_law_due", "_law_strand", "_law_by", "_law_over"] ["_law_mine", "_law_yours", "_law_steps"] (defScope s_law_asked_right) := C8.fnScope_by (by decide +kernel)
theorem c_law_asked_right (T : Tx K mg w) : CalG P w K mg base 9 "_law_asked_right" ["_law_mine", "_law_yours", "_law_steps"] (sp_law_asked_right K) := by
  obtain ⟨fda, aFd, aF⟩ := K2.k_accepts (P := P) (base := base) T
  have aK := aFd.kp
  have aB := acc_kb aFd
  refine calGG T.e_law_asked_right T.g_law_asked_right sc_law_asked_right (fun _ _ _ _ _ _ us hl => match us, hl with | [_, _, _], _ => rfl) (fun _ _ => rfl) fun f cdv A outer s H E hG hr => ?_
  refine ⟨_, (pss_cons (ps_set (i := 3) sc_law_asked_right.nd rfl (Or.inl rfl) (pe_tup (pa_cons pe_str (pa_cons (pe_callTy call_tuple_of (by rfl) T.f_tuple (by decide +kernel) (pa_cons (pv 0) pa_nil)) (pa_cons (pe_callTy call_tuple_of (by rfl) T.f_tuple (by decide +kernel) (pa_cons (pv 1) pa_nil)) pa_nil)))))
    (pss_cons (ps_set (i := 4) sc_law_asked_right.nd rfl (Or.inl rfl) (pe_op op_cat (pv 0) (pe_lc (te := (tTup (tCons (tVar 6) (tCons (tUn _ (tVar 7)) (tCons (tUn _ (tVar 8)) tNil))))) (own := [("_law_strand", 6), ("_law_by", 7), ("_law_over", 8)]) (g := (gTup K 3 (gCons (gName 6) (gCons (gName 7) (gCons (gName 8) gNil))))) (tt := tYes) rfl sc_law_asked_right.nd (pi_list (pe_revL (pv 1))) (blkOk_by (own := [("_law_strand", 6), ("_law_by", 7), ("_law_over", 8)]) (N := ["_law_mine", "_law_yours", "_law_steps", "_law_asked", "_law_row", "_law_due", "_law_strand", "_law_by", "_law_over"]) (sc := defScope s_law_asked_right) (by decide +kernel)) (fun _ _ _ _ _ => (pg_tup rfl (pgs_cons (pg_name (i := 6) sc_law_asked_right.nd rfl (Or.inl rfl)) (pgs_cons (pg_name (i := 7) sc_law_asked_right.nd rfl (Or.inl rfl)) (pgs_cons (pg_name (i := 8) sc_law_asked_right.nd rfl (Or.inl rfl)) pgs_nil))))) (fun _ _ _ _ _ => pts_nil) (fun _ _ _ _ _ => (pe_tup (pa_cons (pv 6) (pa_cons (pe_un un_neg (pv 7)) (pa_cons (pe_un un_neg (pv 8)) pa_nil))))))))
    (pss_cons (ps_set (i := 5) sc_law_asked_right.nd rfl (Or.inl rfl) (pe_cmpR (op_eqD hr.units) (pe_c (c_law_behind T) hr (by decide) (by rfl) (pa_cons (pv 4) (pa_cons (pe_callTy call_tuple_of (by rfl) T.f_tuple (by decide +kernel) (pa_cons (pv 2) pa_nil)) pa_nil))) (pe_lst pa_nil) (nomark _)))
    (pss_cons (ps_ret (pe_cmpR op_eq (pe_callB (call_reprD hG hr.units) (by rfl) T.f_repr (by decide +kernel) (pa_cons (pe_lst (pa_cons (pe_c (c_accepts T) hr (by decide) (by rfl) (pa_cons (pv 3) (pa_cons (pe_callTy call_tuple_of (by rfl) T.f_tuple (by decide +kernel) (pa_cons (pv 2) pa_nil)) pa_nil))) (pa_cons (pe_cK0 aF hr (by decide) (by rfl) T.g_accepts aK aB (pk_cons (pe_callTy call_tuple_of (by rfl) T.f_tuple (by decide +kernel) (pa_cons (pv 2) pa_nil)) (pk_cons (pv 3) pk_nil))) pa_nil))) pa_nil)) (pe_callB (call_reprD hG hr.units) (by rfl) T.f_repr (by decide +kernel) (pa_cons (pe_lst (pa_cons (pv 5) (pa_cons (pv 5) pa_nil))) pa_nil)) (nomark _)))
    pss_nil)))), ?_⟩
  intro a r F0 H0 D hp R
  dsimp only [nox_K]
  obtain ⟨a, b, l, t⟩ := a
  dsimp only at hp ⊢
  have l1 := hp.okA.1
  have l2 := hp.okB.1
  have hfit := hp.fit
  have hlen := hp.len
  have bB := bb (answer a b l)
  apply go_set (w := .d (sameD a b)) (ev_tup (xs := [.str (Str.ofString "same"), .tuple (tsD a), .tuple (tsD b)]) (ea_cons ev_str (ea_cons (ev_cb (ea_one (ev_var rfl)) rc_tupL) (ea_one (ev_cb (ea_one (ev_var rfl)) rc_tupL)))) (by simp))
  have hrev : (tsD b).reverse = b.reverse.map tD := by unfold tsD; rw [List.map_reverse]
  apply go_set (w := .d (.list (tsD (a ++ invR b))))
  · refine ev_op (x := .d (.list (tsD a))) (y := .d (.list (tsD (invR b)))) (ev_var rfl) (ev_is (ev_lcmap (gd := tD) (fd := fun c => tD (invT c)) b.reverse ?_ (by rw [List.length_reverse]; omega) (fun c _ => eg_tD (by decide) (by decide) (by decide)) fun c hc => ?_) ?_) (rv_catRL (by rw [invR_len]; omega))
    · rw [← hrev]
      exact ei_list (ev_revL (ev_var rfl))
    · exact ev_tD (a := c.1) (b := -c.2.1) (c := -c.2.2) (ea_cons (ev_var rfl) (ea_cons (ev_un (ev_var rfl) ru_neg) (ea_one (ev_un (ev_var rfl) ru_neg))))
    · unfold invR tsD
      rw [List.map_map]
      rfl
  apply go_set (w := .d (.bool (answer a b l)))
  · refine ev_is (ev_op (x := .d (optL (stps (a ++ invR b) l))) (y := .d (.list [])) (ec_law_behind (ea_cons (ev_var rfl) (ea_one (ev_tupS (ev_var rfl)))) hfit hlen) (ev_lst (xs := []) ea_nil (by simp)) (rv_eqD rfl (shaped_oL hfit) rfl)) ?_
    rw [eqv_L]
    rfl
  refine go_retE R rfl (ev_op (x := .d (.str (PyData.list [.bool (answer a b l), .bool (answer a b l)]).shown)) (y := .d (.str (PyData.list [.bool (answer a b l), .bool (answer a b l)]).shown)) (ev_cb (ea_one (ev_lst (xs := [.bool (answer a b l), .bool (answer a b l)]) (ea_cons (ec_accepts (ea_cons (ev_var rfl) (ea_one (ev_tupS (ev_var rfl)))) hp) (ea_one (ev_accK (ea_cons (ev_tupS (ev_var rfl)) (ea_one (ev_var rfl))) hp))) (by simp))) (rc_repr bB.1 bB.2.1 bB.2.2.1 bB.2.2.2)) (ev_cb (ea_one (ev_lst (xs := [.bool (answer a b l), .bool (answer a b l)]) (ea_cons (ev_var rfl) (ea_one (ev_var rfl))) (by simp))) (rc_repr bB.1 bB.2.1 bB.2.2.1 bB.2.2.2)) rv_eqS) ?_
  rw [beq_self_eq_true]
theorem ec_law_asked_right {a b : Row} {l : List PyData} {t : Bool} (h : EvA K r ta ds (IsA [.d (.list (tsD a)), .d (.list (tsD b)), .d (stD t l)])) (h1 : Ask a b l) : Ev K r (tCall (sp_law_asked_right K) [] E0 ta) ds (Is (.d (.bool true))) := ev_call (a, b, l, t) h rfl h1
end
end Kn

set_option Elab.async false
set_option linter.all false
set_option maxRecDepth 100000
set_option maxHeartbeats 4000000
/-! Windings of single letters. -/
namespace Kn
open PySem PySem.Spec PyProof.Rows L2
local macro_rules | `(tactic| walk_at "sd") => `(tactic| first | trivial | assumption | walk_at "sz")
local macro_rules | `(tactic| walk_at "sz") => `(tactic| first | assumption | decide | omega | rfl | (simp only [List.length_append, List.length_map, List.length_cons, List.length_nil, List.length_reverse]; omega))
local macro_rules | `(tactic| walk_at "rv") => `(tactic| with_reducible first
  | exact rv_ix0 | exact rv_ix1 | exact rv_ix2 | exact rv_eqI | exact rv_neI | exact rv_eqE | exact rv_neE | exact rv_eqW | exact rv_neW | exact rv_eqS | exact rv_neS
  | exact rv_int0 | exact rv_bl0
  | exact rv_ixT0 | exact rv_ixT1
  | exact rv_ixRT (by assumption) | exact rv_ixRL (by assumption) | (apply rv_ixW; walk_at "sz"; assumption)
  | (refine rv_addW ?_; walk_at "sz")
  | (refine rv_catRT ?_; walk_at "sz") | (refine rv_catRL ?_; walk_at "sz")
  | (refine rv_intC ?_; assumption) | (apply rv_mulW; walk_at "sz"; walk_at "sz"; walk_at "sz")
  | exact rv_inW | exact rv_inSign | exact rv_isN | exact rv_notN | exact rv_notBl
  | exact rv_ixT (by with_unfolding_all rfl) | exact rv_ixL (by with_unfolding_all rfl)
  | exact rv_ixT (by assumption) | exact rv_ixL (by assumption)
  | (refine rv_catA ?_; walk_at "sz") | (refine rv_cat ?_; walk_at "sz"))
local macro_rules | `(tactic| walk_at "rs") => `(tactic| with_reducible first
  | exact rs_rT | exact rs_rL
  | (refine rs_w ?_ ?_; walk_at "sz"; (with_unfolding_all first | exact Nat.zero_le _ | exact HT.sIx_le _ _ (Nat.zero_le _) _ | assumption))
  | exact rs_tup | exact rs_list
  | (refine rs_str ?_; walk_at "sz"))
local macro_rules | `(tactic| walk_at "rc") => `(tactic| with_reducible first
  | exact rc_lenD3 | exact rc_lenRT | exact rc_lenRL | exact rc_lenT | exact rc_lenL | (refine rc_lenW ?_; walk_at "sz") | (refine rc_lenS ?_; walk_at "sz")
  | exact rc_isi (kit_int _) | exact rc_isi (kit_bool _) | exact rc_isi (kit_str _) | exact rc_isi (kit_tup _)
  | exact rc_max | exact rc_min | exact rc_int | exact rc_abs | exact rc_all | exact rc_tupL | exact rc_tupT | exact rc_list | exact rc_listT | (refine rc_listW ?_; walk_at "sz"))
local macro_rules | `(tactic| walk_at "rm") => `(tactic| first | (with_reducible apply rm_lowW; assumption; walk_at "sz") | (with_reducible apply rm_upW; assumption; walk_at "sz"))
local macro_rules | `(tactic| walk_at "ea") => `(tactic| first
  | with_reducible exact ea_nil
  | ((with_reducible apply ea_cons); walk_at "ev"; walk_at "ea"))
local macro_rules | `(tactic| walk_at "eo") => `(tactic| first
  | with_reducible exact eo_none
  | ((with_reducible apply eo_some); walk_at "ev"))
local macro_rules | `(tactic| walk_at "et") => `(tactic| first
  | ((with_reducible apply et_test); walk_at "ev")
  | ((with_reducible apply et_B); walk_at "ev")
  | ((with_reducible apply et_not); walk_at "et")
  | ((with_reducible apply et_and); walk_at "et"; intro _; walk_at "et")
  | ((with_reducible apply et_or); walk_at "et"; intro _; walk_at "et"))
local macro_rules | `(tactic| walk_at "ev") => `(tactic| first
  | with_reducible exact ev_int | with_reducible exact ev_str | with_reducible exact ev_bl | with_reducible exact ev_non | with_reducible exact ev_val
  | ((with_reducible apply ev_var); exact rfl)
  | ((with_reducible apply ev_op); walk_at "ev"; walk_at "ev"; walk_at "rv")
  | ((with_reducible apply ev_un); walk_at "ev"; exact ru_neg)
  | ((with_reducible apply ev_and); walk_at "ev"; intro _; walk_at "ev")
  | ((with_reducible apply ev_or); walk_at "ev"; intro _; walk_at "ev")
  | ((with_reducible apply ev_not); walk_at "ev")
  | ((with_reducible apply ev_sl); walk_at "ev"; walk_at "eo"; walk_at "eo"; walk_at "rs")
  | ((with_reducible apply ev_chain); walk_at "ev"; walk_at "ev"; walk_at "rv"; (intro _; walk_at "ev"); (intro _; walk_at "rv"))
  | walk_at "ec"
  | ((with_reducible apply ev_if); walk_at "et"; (intro _; walk_at "ev"); (intro _; walk_at "ev"))
  | ((with_reducible apply ev_m0); walk_at "ev"; walk_at "rm")
  | ((with_reducible apply ev_cb); walk_at "ea"; walk_at "rc")
  | ((with_reducible apply ev_tD); walk_at "ea")
  | with_reducible exact ev_rT0 | with_reducible exact ev_rL0
  | ((with_reducible apply ev_rT1); walk_at "ea") | ((with_reducible apply ev_rT2); walk_at "ea") | ((with_reducible apply ev_rT3); walk_at "ea")
  | ((with_reducible apply ev_rL1); walk_at "ea") | ((with_reducible apply ev_rL2); walk_at "ea") | ((with_reducible apply ev_rL3); walk_at "ea") | ((with_reducible apply ev_rL4); walk_at "ea")
  | ((with_reducible apply ev_revW); walk_at "ev"; walk_at "sz")
  | ((with_reducible apply ev_revL); walk_at "ev")
  | ((with_reducible apply ev_revT); walk_at "ev"))
local macro_rules | `(tactic| walk_at "ret") => `(tactic| (apply go_retE; assumption; exact rfl; walk_at "ev"))
local macro_rules | `(tactic| walk_at "if") => `(tactic| (apply go_if; walk_at "et"))
local macro_rules | `(tactic| walk_at "set") => `(tactic| (apply go_set; walk_at "ev"))
local macro_rules | `(tactic| walk_at "eg") => `(tactic| first | exact eg_name (by decide) | exact eg_tD (by decide) (by decide) (by decide))
def invL (l : List LT) : List LT := l.reverse.map fun t => (t.1, -t.2.1, -t.2.2)
theorem inv_up (l : List LT) : invR (upR l) = upR (invL l) := by
  unfold invR upR invL
  rw [← List.map_reverse, List.map_map, List.map_map]
  rfl
theorem invL_len (l : List LT) : (invL l).length = l.length := by unfold invL; rw [List.length_map, List.length_reverse]
theorem LBs.ok {p q : Int} {l : List LT} (h : LBs p q l) : LOk l := fun t ht => (h t ht).c
theorem LBs.inv {p q : Int} {l : List LT} (h : LBs p q l) : LBs p q (invL l) := fun t ht => by
  unfold invL at ht
  obtain ⟨x, hx, rfl⟩ := List.mem_map.mp ht
  have g := h x (List.mem_reverse.mp hx)
  exact ⟨g.c, by have := g.p2; show -p ≤ -x.2.1; omega, by have := g.p1; show -x.2.1 ≤ p; omega, by have := g.q2; show -q ≤ -x.2.2; omega, by have := g.q1; show -x.2.2 ≤ q; omega⟩
theorem blk_up {l : List LT} (h : LBs 6 21 l) (hl : l.length ≤ 12) : BlksOk (upR l) := by
  refine ⟨by rw [upR_len]; exact hl, fun t ht => ?_⟩
  obtain ⟨x, hx, rfl⟩ := List.mem_map.mp ht
  have g := h x hx
  exact ⟨lw1 g.c, Nat.le_refl 1, by show 1 ≤ 12; decide, by have := g.p1; show -9 ≤ x.2.1; omega, by have := g.p2; show x.2.1 ≤ 9; omega, by have := g.q1; show -99 ≤ x.2.2; omega, by have := g.q2; show x.2.2 ≤ 99; omega⟩
theorem zst_hob {z : Zp} {s : HS} {z' : Zp} (hz : z.ok) (hl : z.row.length ≤ 100) (h : zst z = (some s, z')) : HOB 200 s ∧ s.1 ≠ .split := by
  obtain ⟨pre, post, ex⟩ := z
  unfold zst at h
  cases post with
  | nil => cases h
  | cons t ts =>
    have he : ex = 0 := by
      rcases hz with q | q
      · cases q
      · exact q
    subst he
    have hat : ((Zp.at_ ⟨pre, t :: ts, 0⟩ : Nat) : Int) ≤ 100 := by
      unfold Zp.row at hl
      unfold Zp.at_
      simp only [List.length_append, List.length_reverse, List.length_cons] at hl
      dsimp only
      omega
    have one : ∀ (k : Kd) (i : Int), k.sz = 2 → -200 ≤ i → i ≤ 200 → HOB 200 (k, [i]) := fun k i hk h1 h2 => ⟨hk.symm, fun j hj => by rw [List.mem_singleton.mp hj]; exact ⟨h1, h2⟩⟩
    dsimp only at h
    split at h
    · cases h
      exact ⟨one _ _ rfl (by omega) (by omega), fun e => nomatch (show (_ : Kd) = .split from e)⟩
    · split at h
      · cases h
        exact ⟨one _ _ rfl (by omega) (by omega), fun e => nomatch (show (_ : Kd) = .split from e)⟩
      · cases pre with
        | nil => cases h
        | cons a pre =>
          dsimp only at h
          split at h
          · cases h
            exact ⟨one _ _ rfl (by omega) (by omega), fun e => nomatch (show (_ : Kd) = .split from e)⟩
          · cases h
theorem zrun_hob {l : List LT} (h : LOk l) (hl : l.length ≤ 100) (n : Nat) : ∀ s ∈ (zrun l n).1, HOB 200 s ∧ s.1 ≠ .split := by
  induction n with
  | zero => exact fun s hs => nomatch hs
  | succ n ih =>
    intro s hs
    rcases List.mem_append.mp (show s ∈ (zrun l n).1 ++ (zst (zrun l n).2).1.toList from hs) with e | e
    · exact ih s e
    · obtain ⟨g1, g2, g3⟩ := zrun_ok h n
      cases q : zst (zrun l n).2 with
      | mk o z' =>
        rw [q] at e
        cases o with
        | none => cases e
        | some s' =>
          have : s = s' := List.mem_singleton.mp e
          subst this
          exact zst_hob g1 (by omega) q
theorem letter_hob {l : List LT} (h : LOk l) (hl : l.length ≤ 100) : ∀ s ∈ letterSteps l, HOB 200 s ∧ s.1 ≠ .split := fun s hs => by
  unfold letterSteps at hs
  rcases List.mem_append.mp hs with e | e
  · exact zrun_hob h hl _ s e
  · unfold faced at e
    obtain ⟨i, hi, rfl⟩ := List.mem_map.mp e
    have hi' := List.mem_range.mp (List.mem_filter.mp hi).1
    have g3 := (zrun_ok h (4 * l.length + 4)).2.2
    rw [upR_len] at hi'
    have : i < 100 := Nat.lt_of_lt_of_le hi' (Nat.le_trans g3 hl)
    exact ⟨⟨rfl, fun j hj => by rw [List.mem_singleton.mp hj]; omega⟩, fun e => nomatch (show Kd.turn = .split from e)⟩
theorem letter_len {l : List LT} (h : LOk l) (hl : l.length ≤ 100) : (letterSteps l).length ≤ 504 := by
  unfold letterSteps
  rw [List.length_append]
  have g3 := (zrun_ok h (4 * l.length + 4)).2.2
  have g4 := zrun_len l (4 * l.length + 4)
  have g5 := faced_len (upR (endZ l).row)
  rw [upR_len] at g5
  have g6 : (endZ l).row.length ≤ l.length := g3
  omega
theorem askL {m y : List LT} (hm : LBs 6 21 m) (hy : LBs 6 21 y) (m1 : m.length ≤ 12) (y1 : y.length ≤ 12) : Ask (upR m) (upR y) (hsD (letterSteps (m ++ invL y))) := by
  have ok : LOk (m ++ invL y) := fun t ht => (List.mem_append.mp ht).elim (hm.ok t) (hy.inv.ok t)
  have hl : (m ++ invL y).length ≤ 24 := by rw [List.length_append, invL_len]; omega
  have hh := letter_hob ok (by omega)
  have hlen := letter_len ok (by omega)
  have hlen2 : (hsD (letterSteps (m ++ invL y))).length = (letterSteps (m ++ invL y)).length := List.length_map _
  have hn : nsp (hsD (letterSteps (m ++ invL y))) = 0 := by
    rw [nsp_h]
    unfold nsH
    rw [List.filter_eq_nil_iff.mpr fun s hs => by rw [decide_eq_false (hh s hs).2]; exact Bool.false_ne_true]
    rfl
  refine ⟨blk_up hm m1, blk_up hy y1, ⟨?_, fun d hd => ?_, ?_⟩, by omega⟩
  · rw [inv_up, ← upR_app]
    exact LOk.rlw ok
  · obtain ⟨s, hs, rfl⟩ := List.mem_map.mp hd
    exact stok_h (hh s hs).1 (by decide)
  · rw [inv_up, ← upR_app, tot_up, hn, hlen2, Nat.pow_zero, Nat.mul_one]
    omega
theorem answerL {m y : List LT} (hm : LBs 6 21 m) (hy : LBs 6 21 y) : answer (upR m) (upR y) (hsD (letterSteps (m ++ invL y))) = (lastT (m ++ invL y)).isEmpty := by
  have ok : LOk (m ++ invL y) := fun t ht => (List.mem_append.mp ht).elim (hm.ok t) (hy.inv.ok t)
  unfold answer
  rw [inv_up, ← upR_app]
  exact letters_done ok
/-- a moved block of letters -/
theorem mvb_up {l : List LT} {row' : Row} (h : MvB (upR l) row') (hl : LBs 5 20 l) : ∃ l' : List LT, row' = upR l' ∧ LBs 6 21 l' ∧ (l'.length ≤ l.length ∨ l'.length = 1) := by
  have each : ∀ t' ∈ row', ∃ c : Nat, t'.1 = [c] ∧ LB 6 21 (c, t'.2.1, t'.2.2) := fun t' ht => by
    rcases h.2 t' ht with e | ⟨t, htm, g1, g2, g3, g4, g5⟩
    · subst e
      exact ⟨97, rfl, by decide, by decide, by decide, by decide, by decide⟩
    · obtain ⟨x, hx, rfl⟩ := List.mem_map.mp htm
      have b := hl x hx
      have p1 := b.p1
      have p2 := b.p2
      have q1 := b.q1
      have q2 := b.q2
      unfold up at g1 g2 g3 g4 g5
      dsimp only at g1 g2 g3 g4 g5
      exact ⟨x.1, g1, b.c, by show -6 ≤ t'.2.1; omega, by show t'.2.1 ≤ 6; omega, by show -21 ≤ t'.2.2; omega, by show t'.2.2 ≤ 21; omega⟩
  refine ⟨row'.map fun t' => (t'.1.headD 0, t'.2.1, t'.2.2), ?_, fun t ht => ?_, ?_⟩
  · unfold upR
    rw [List.map_map]
    conv => lhs; rw [← List.map_id row']
    refine List.map_congr_left fun t' ht => ?_
    obtain ⟨c, e, _⟩ := each t' ht
    obtain ⟨w, p, q⟩ := t'
    dsimp only at e
    subst e
    rfl
  · obtain ⟨t', ht', rfl⟩ := List.mem_map.mp ht
    obtain ⟨c, e, g⟩ := each t' ht'
    rw [e]
    exact g
  · rw [List.length_map]
    have := h.1
    rw [upR_len] at this
    exact this
section
variable {K K' : PySem.W.Frag} {r : Res} {ds : Sl} {P : Da → Prop} {ta tb tc te te0 : TE} {tt : TT}
def UX (A : List LT → Prop) (w : Da) : Prop := ∃ l : List LT, w = .d (.list (tsD (upR l))) ∧ A l
theorem evn_catU {A B C : List LT → Prop} (ha : Ev K r ta ds (UX A)) (hb : Ev K r tb ds (UX B)) (h : ∀ l m, A l → B m → l.length + m.length ≤ 1000 ∧ C (l ++ m)) : Ev K r (tOp rCat ta tb) ds (UX C) := evn_op ha fun x ⟨l1, e1, h1⟩ => ⟨_, hb, fun y ⟨l2, e2, h2⟩ => by
  subst e1; subst e2
  obtain ⟨g1, g2⟩ := h l1 l2 h1 h2
  exact fun F H v w o f hv hw Q q => rv_catRL (by rw [upR_len, upR_len]; omega) F H v w o f hv hw Q fun u H2 z ez s rx => q u H2 z ⟨l1 ++ l2, by rw [ez, upR_app], g2⟩ s rx⟩
theorem ev_ux {l : List LT} {A : List LT → Prop} (h : Ev K r ta ds (Is (.d (.list (tsD (upR l)))))) (ha : A l) : Ev K r ta ds (UX A) := h.imp fun w e => ⟨l, e, ha⟩
theorem evn_sl {R : V → Option Int → Option Int → Hp → VK → Prop} {tl th : TO} {Pa : Da → Prop} {lo hi : Option Int} (h : Ev K r te ds Pa) (hl : EvO K r tl ds lo) (hh : EvO K r th ds hi) (k : ∀ w, Pa w → RS K r R w lo hi P) : Ev K r (L2.tSl R te tl th) ds P := fun F σ H o f s Q q => by
  refine h F σ H o f s _ fun v H1 w pw s1 x1 => ?_
  refine hl F σ H1 s1.on (s1.fok f) (s.same s1.same) _ fun H2 s2 => ?_
  have s12 := s1.trans s2
  refine hh F σ H2 s2.on (s12.fok f) (s.same s12.same) _ fun H3 s3 => ?_
  exact k w pw F H3 v s3.on ((s12.trans s3).fok f) (x1.same (s2.trans s3).same) Q fun u H4 z pz s4 x4 => q u H4 z pz ((s12.trans s3).trans s4) x4
theorem cut_up (l : List LT) (lo hi : Option Int) : cutG (upR l) lo hi = upR (cutG l lo hi) := by
  unfold cutG upR
  rw [List.length_map, List.map_take, List.map_drop]
end
theorem lit4 : ∀ x ∈ [PyData.str (Str.ofString "ab"), .str (Str.ofString "cf"), .str (Str.ofString "abc"), .str (Str.ofString "edb")], ∃ w : Wd, x = .str (S w) ∧ LW w ∧ 2 ≤ w.length ∧ w.length ≤ 4 := by
  intro x hx
  simp only [List.mem_cons, List.not_mem_nil, or_false] at hx
  have lw : ∀ l : Wd, (l.all fun c => decide (c ∈ Lt)) = true → LW l := fun l h c hc => of_decide_eq_true (List.all_eq_true.mp h c hc)
  rcases hx with rfl | rfl | rfl | rfl
  · exact ⟨[97, 98], by rw [show Str.ofString "ab" = S [97, 98] by decide +kernel], lw _ rfl, by decide, by decide⟩
  · exact ⟨[99, 102], by rw [show Str.ofString "cf" = S [99, 102] by decide +kernel], lw _ rfl, by decide, by decide⟩
  · exact ⟨[97, 98, 99], by rw [show Str.ofString "abc" = S [97, 98, 99] by decide +kernel], lw _ rfl, by decide, by decide⟩
  · exact ⟨[101, 100, 98], by rw [show Str.ofString "edb" = S [101, 100, 98] by decide +kernel], lw _ rfl, by decide, by decide⟩
section
variable {P : Program} {w w' : World} {K K' : PySem.W.Frag} {mg : Str → Option Value} {base : Heap} {r : Res} {ds : Sl} {ta : TA}
theorem b1 (x : Bool) : (PyData.bool x).showable = true ∧ (PyData.bool x).hasDict = false ∧ (PyData.bool x).depth ≤ 60 ∧ (PyData.bool x).shown.length ≤ sizeLine := by
  cases x <;> exact ⟨by decide +kernel, by decide +kernel, by decide +kernel, by decide +kernel⟩
/-- the row of the one and, behind, of the other undone -/
theorem ev_rowL {ds : Sl} {i j s p q : Nat} {b : Res} {m y : List LT} (h1 : ds[i]? = some (some (.d (.list (tsD (upR m)))))) (h2 : ds[j]? = some (some (.d (.list (tsD (upR y)))))) (hl : y.length ≤ 100) (hm : m.length ≤ 100)
    (hs : ∀ t : Tr, ((((wipeD ds [s, p, q]).set s (some (.d (.str (S t.1))))).set p (some (.d (.int t.2.1)))).set q (some (.d (.int t.2.2))))[s]? = some (some (.d (.str (S t.1)))) ∧ ((((wipeD ds [s, p, q]).set s (some (.d (.str (S t.1))))).set p (some (.d (.int t.2.1)))).set q (some (.d (.int t.2.2))))[p]? = some (some (.d (.int t.2.1))) ∧ ((((wipeD ds [s, p, q]).set s (some (.d (.str (S t.1))))).set p (some (.d (.int t.2.1)))).set q (some (.d (.int t.2.2))))[q]? = some (some (.d (.int t.2.2)))) :
    Ev K b (tOp rCat (tVar i) (tLc (iList K (tRevL K (tVar j))) (gTup K 3 (gCons (gName s) (gCons (gName p) (gCons (gName q) gNil)))) tYes (tTup (tCons (tVar s) (tCons (tUn (rU fun i => V.int (-i)) (tVar p)) (tCons (tUn (rU fun i => V.int (-i)) (tVar q)) tNil)))) [s, p, q])) ds (Is (.d (.list (tsD (upR (m ++ invL y)))))) := by
  have hrev : (tsD (upR y)).reverse = y.reverse.map fun t => tD (up t) := by unfold tsD upR; rw [List.map_map, List.map_reverse]; rfl
  refine ev_is (ev_op (x := .d (.list (tsD (upR m)))) (y := .d (.list (tsD (upR (invL y))))) (ev_var h1) (ev_is (ev_lcmap (gd := fun t => tD (up t)) (fd := fun t => tD (up (t.1, -t.2.1, -t.2.2))) y.reverse ?_ (by rw [List.length_reverse]; omega) (fun c _ => eg_tD (by simp) (by simp) (by simp)) fun c hc => ?_) ?_) (rv_catRL (by rw [upR_len, upR_len, invL_len]; omega))) ?_
  · rw [← hrev]
    exact ei_list (ev_revL (ev_var h2))
  · obtain ⟨g1, g2, g3⟩ := hs (up c)
    exact ev_tD (a := [c.1]) (b := -c.2.1) (c := -c.2.2) (ea_cons (ev_var g1) (ea_cons (ev_un (ev_var g2) ru_neg) (ea_one (ev_un (ev_var g3) ru_neg))))
  · unfold invL tsD upR
    rw [List.map_map, List.map_map]
    rfl
  · rw [upR_app]
def sp_law_by_letters (K : PySem.W.Frag) : Sp := spB K (fun _ : Unit => []) (fun _ => True) fun _ => Is (.d (.bool true))
-- slots: 0=_law_bag_here 1=_law_letters 2=_law_mine 3=_law_rest 4=_law_at 5=_law_yours 6=_law_kind 7=_law_row 8=_law_steps 9=_law_strand 10=_law_by 11=_law_over 12=_law_s
theorem sc_law_by_letters : FnScope ["_law_bag_here", "_law_letters", "_law_mine", "_law_rest", "_law_at", "_law_yours", "_law_kind", "_law_row", "_law_steps", "_law_strand", "_law_by", "_law_over", "_law_s"] ["_law_bag_here"] (defScope s_law_by_letters) := C8.fnScope_by (by decide +kernel)
theorem c_law_by_letters (T : Tx K mg w) : CalG P w K mg base 10 "_law_by_letters" ["_law_bag_here"] (sp_law_by_letters K) := by
  refine calGG T.e_law_by_letters T.g_law_by_letters sc_law_by_letters (fun _ _ _ _ _ _ us hl => match us, hl with | [_], _ => rfl) (fun _ _ => rfl) fun f cdv A outer s H E hG hr => ?_
  refine ⟨_, (pss_cons (ps_set (i := 1) sc_law_by_letters.nd rfl (Or.inl rfl) (pe_c (c_law_of T) hr (by decide) (by rfl) (pa_cons (pv 0) (pa_cons (pe_lst (pa_cons pe_str (pa_cons pe_str (pa_cons pe_str (pa_cons pe_str pa_nil))))) pa_nil))))
    (pss_cons (ps_par (i := 2) (j := 3) rfl sc_law_by_letters.nd rfl rfl (by decide) rfl rfl (pa_cons (pe_slice sl_list (pe_c (c_law_nested T) hr (by decide) (by rfl) (pa_cons (pv 0) (pa_cons (pv 1) pa_nil))) po_none (po_some pe_int)) (pa_cons (pe_lst (pa_cons (pe_c (c_law_part T) hr (by decide) (by rfl) (pa_cons (pv 0) (pa_cons (pv 1) pa_nil))) pa_nil)) pa_nil)) (by rfl))
    (pss_cons (ps_set (i := 4) sc_law_by_letters.nd rfl (Or.inl rfl) (pe_c (c_law_take T) hr (by decide) (by rfl) (pa_cons (pv 0) (pa_cons (pe_op op_add (pe_callB call_len_seq (by rfl) T.f_len PySem.boot_len (pa_cons (pv 2) pa_nil)) pe_int) pa_nil))))
    (pss_cons (ps_set (i := 5) sc_law_by_letters.nd rfl (Or.inl rfl) (pe_op op_cat (pe_op op_cat (pe_op op_cat (pe_slice sl_list (pv 2) po_none (po_some (pv 4))) (pv 3)) (pe_c (c_law_undoing T) hr (by decide) (by rfl) (pa_cons (pv 0) (pa_cons (pv 3) pa_nil)))) (pe_slice sl_list (pv 2) (po_some (pv 4)) po_none)))
    (pss_cons (ps_set (i := 6) sc_law_by_letters.nd rfl (Or.inl rfl) (pe_c (c_law_take T) hr (by decide) (by rfl) (pa_cons (pv 0) (pa_cons pe_int pa_nil))))
    (pss_cons (ps_if (pt_cmpR op_gt (pv 6) pe_int (nomark _)) (pss_cons (ps_set (i := 5) sc_law_by_letters.nd rfl (Or.inl rfl) (pe_ifExp (pt_cmpR op_eq (pv 6) pe_int (nomark _)) (pe_c (c_law_moved_block T) hr (by decide) (by rfl) (pa_cons (pv 0) (pa_cons (pv 5) pa_nil))) (pe_c (c_law_nested T) hr (by decide) (by rfl) (pa_cons (pv 0) (pa_cons (pv 1) pa_nil)))))
    pss_nil) pss_nil)
    (pss_cons (ps_set (i := 7) sc_law_by_letters.nd rfl (Or.inl rfl) (pe_op op_cat (pv 2) (pe_lc (te := (tTup (tCons (tVar 9) (tCons (tUn _ (tVar 10)) (tCons (tUn _ (tVar 11)) tNil))))) (own := [("_law_strand", 9), ("_law_by", 10), ("_law_over", 11)]) (g := (gTup K 3 (gCons (gName 9) (gCons (gName 10) (gCons (gName 11) gNil))))) (tt := tYes) rfl sc_law_by_letters.nd (pi_list (pe_revL (pv 5))) (blkOk_by (own := [("_law_strand", 9), ("_law_by", 10), ("_law_over", 11)]) (N := ["_law_bag_here", "_law_letters", "_law_mine", "_law_rest", "_law_at", "_law_yours", "_law_kind", "_law_row", "_law_steps", "_law_strand", "_law_by", "_law_over", "_law_s"]) (sc := defScope s_law_by_letters) (by decide +kernel)) (fun _ _ _ _ _ => (pg_tup rfl (pgs_cons (pg_name (i := 9) sc_law_by_letters.nd rfl (Or.inl rfl)) (pgs_cons (pg_name (i := 10) sc_law_by_letters.nd rfl (Or.inl rfl)) (pgs_cons (pg_name (i := 11) sc_law_by_letters.nd rfl (Or.inl rfl)) pgs_nil))))) (fun _ _ _ _ _ => pts_nil) (fun _ _ _ _ _ => (pe_tup (pa_cons (pv 9) (pa_cons (pe_un un_neg (pv 10)) (pa_cons (pe_un un_neg (pv 11)) pa_nil))))))))
    (pss_cons (ps_set (i := 8) sc_law_by_letters.nd rfl (Or.inl rfl) (pe_c (c_law_letter_steps T) hr (by decide) (by rfl) (pa_cons (pv 7) pa_nil)))
    (pss_cons (ps_if (pt_cmpR op_ne (pe_callB (call_reprD hG hr.units) (by rfl) T.f_repr (by decide +kernel) (pa_cons (pe_c (c_accepts T) hr (by decide) (by rfl) (pa_cons (pe_tup (pa_cons pe_str (pa_cons (pe_callTy call_tuple_of (by rfl) T.f_tuple (by decide +kernel) (pa_cons (pv 2) pa_nil)) (pa_cons (pe_callTy call_tuple_of (by rfl) T.f_tuple (by decide +kernel) (pa_cons (pv 5) pa_nil)) pa_nil)))) (pa_cons (pv 8) pa_nil))) pa_nil)) (pe_callB (call_reprD hG hr.units) (by rfl) T.f_repr (by decide +kernel) (pa_cons (pe_cmpR (op_eqD hr.units) (pe_c (c_law_lasting T) hr (by decide) (by rfl) (pa_cons (pv 7) pa_nil)) (pe_lst pa_nil) (nomark _)) pa_nil)) (nomark _)) (pss_cons (ps_ret pe_bl)
    pss_nil) pss_nil)
    (pss_cons (ps_ret (pe_cG (c_law_asked_right T) hG hr (by decide) (by rfl) (pa_cons (pv 5) (pa_cons (pv 2) (pa_cons (pe_c (c_law_letter_steps T) hr (by decide) (by rfl) (pa_cons (pe_op op_cat (pv 5) (pe_lc (te := (tTup (tCons (tVar 12) (tCons (tUn _ (tVar 10)) (tCons (tUn _ (tVar 11)) tNil))))) (own := [("_law_s", 12), ("_law_by", 10), ("_law_over", 11)]) (g := (gTup K 3 (gCons (gName 12) (gCons (gName 10) (gCons (gName 11) gNil))))) (tt := tYes) rfl sc_law_by_letters.nd (pi_list (pe_revL (pv 2))) (blkOk_by (own := [("_law_s", 12), ("_law_by", 10), ("_law_over", 11)]) (N := ["_law_bag_here", "_law_letters", "_law_mine", "_law_rest", "_law_at", "_law_yours", "_law_kind", "_law_row", "_law_steps", "_law_strand", "_law_by", "_law_over", "_law_s"]) (sc := defScope s_law_by_letters) (by decide +kernel)) (fun _ _ _ _ _ => (pg_tup rfl (pgs_cons (pg_name (i := 12) sc_law_by_letters.nd rfl (Or.inl rfl)) (pgs_cons (pg_name (i := 10) sc_law_by_letters.nd rfl (Or.inl rfl)) (pgs_cons (pg_name (i := 11) sc_law_by_letters.nd rfl (Or.inl rfl)) pgs_nil))))) (fun _ _ _ _ _ => pts_nil) (fun _ _ _ _ _ => (pe_tup (pa_cons (pv 12) (pa_cons (pe_un un_neg (pv 10)) (pa_cons (pe_un un_neg (pv 11)) pa_nil))))))) pa_nil)) pa_nil)))))
    pss_nil)))))))))), ?_⟩
  intro a r F0 H0 D hp R
  dsimp only [nox_K]
  obtain ⟨hr1, _⟩ := hp
  obtain ⟨b, rfl⟩ := Option.isSome_iff_exists.mp hr1
  refine go_asg (P := fun x => ∃ w : Wd, x = .d (.str (S w)) ∧ LW w ∧ 2 ≤ w.length ∧ w.length ≤ 4) ((ec_law_of (xs := [.str (Str.ofString "ab"), .str (Str.ofString "cf"), .str (Str.ofString "abc"), .str (Str.ofString "edb")]) (ea_cons (ev_var rfl) (ea_one (ev_lst (xs := [.str (Str.ofString "ab"), .str (Str.ofString "cf"), .str (Str.ofString "abc"), .str (Str.ofString "edb")]) (ea_cons ev_str (ea_cons ev_str (ea_cons ev_str (ea_one ev_str)))) (by simp)))) (by simp) (by simp)).imp fun x ⟨y, hy, e⟩ => ?_) fun x ⟨w0, ex, hw, w1, w2⟩ => ?_
  · obtain ⟨w0, rfl, g⟩ := lit4 y hy
    exact ⟨w0, e, g⟩
  subst ex
  refine go_par (Pa := fun ws => ∃ x y, UX (fun l => l.length ≤ 6 ∧ LBs 5 20 l) x ∧ UX (fun l => l.length = 1 ∧ LBs 5 20 l) y ∧ ws = [x, y]) (ean2 ?_ ?_) ?_
  · refine evn_sl (lo := none) (hi := some 6) (ec_law_nested (ea_cons (ev_var rfl) (ea_one (ev_var rfl))) hw w1 (by omega)) eo_none (eo_some ev_int) fun w ⟨l, e, l1, l2⟩ => ?_
    subst e
    exact fun F H v o f hv Q q => rs_rL rfl F H v o f hv Q fun u H2 z ez s rx => q u H2 z ⟨cutG l none (some 6), by rw [ez, cut_up], by rw [show (6 : Int) = ((6 : Nat) : Int) from rfl, cutG_take, List.length_take]; omega, fun t ht => l2 t (cutG_mem ht)⟩ s rx
  · refine evn_lst (ean1 (ec_law_part (ea_cons (ev_var rfl) (ea_one (ev_var rfl))) hw (by omega) (by omega))) ?_
    rintro ws ⟨x, ⟨t, ht, rfl⟩, rfl⟩
    exact ⟨[tD (up t)], rfl, by simp, [t], rfl, rfl, fun u hu => by rw [List.mem_singleton.mp hu]; exact ht.mono (by decide) (by decide)⟩
  rintro ws ⟨_, _, ⟨lm, rfl, hm1, hm2⟩, ⟨lr, rfl, hr1', hr2⟩, rfl⟩
  refine ⟨_, _, rfl, ?_⟩
  refine go_asg (P := Dr (lm.length + 1)) (ec_law_take (n := lm.length + 1) (ea_cons (ev_var rfl) (ea_one (ev_is (ev_op (ev_cb (ea_one (ev_var rfl)) rc_lenRL) ev_int rv_int0) (by rw [upR_len] <;> rfl)))) (by omega) (by omega)) fun w ⟨at_, ew, hat⟩ => ?_
  subst ew
  have hat' : at_ ≤ lm.length := by omega
  refine go_asg (P := UX fun l => l.length ≤ 8 ∧ LBs 5 20 l) (evn_catU (A := fun l => l.length ≤ at_ + 2 ∧ LBs 5 20 l) (B := fun l => l.length + at_ ≤ lm.length ∧ LBs 5 20 l) (evn_catU (A := fun l => l.length ≤ at_ + 1 ∧ LBs 5 20 l) (B := fun l => l.length = 1 ∧ LBs 5 20 l) (evn_catU (A := fun l => l.length ≤ at_ ∧ LBs 5 20 l) (B := fun l => l.length = 1 ∧ LBs 5 20 l) ?_ (ev_ux (ev_var rfl) ⟨hr1', hr2⟩) ?_) ?_ ?_) ?_ ?_) fun w ⟨ly, ew, y1, y2⟩ => ?_
  · refine (ev_sl (w := .d (.list (tsD (upR lm)))) (ev_var rfl) eo_none (eo_some (ev_var rfl)) rs_rL).imp fun w e => ⟨cutG lm none (some ((at_ : Nat) : Int)), by rw [e, cut_up], by rw [cutG_take, List.length_take]; omega, fun t ht => hm2 t (cutG_mem ht)⟩
  · exact fun l m h1 h2 => ⟨by omega, by rw [List.length_append]; omega, h1.2.app h2.2⟩
  · exact (ec_law_undoing (l := lr) (p := 5) (q := 20) (ea_cons (ev_var rfl) (ea_one (ev_var rfl))) hr2 (by omega)).imp fun w ⟨l, e1, e2, e3⟩ => ⟨l, e3, by omega, e2⟩
  · exact fun l m h1 h2 => ⟨by omega, by rw [List.length_append]; omega, h1.2.app h2.2⟩
  · refine (ev_sl (w := .d (.list (tsD (upR lm)))) (ev_var rfl) (eo_some (ev_var rfl)) eo_none rs_rL).imp fun w e => ⟨cutG lm (some ((at_ : Nat) : Int)) none, by rw [e, cut_up], by rw [cutG_drop, List.length_drop]; omega, fun t ht => hm2 t (cutG_mem ht)⟩
  · exact fun l m h1 h2 => ⟨by omega, by rw [List.length_append]; omega, h1.2.app h2.2⟩
  subst ew
  refine go_asg (P := Dr 3) (ev_take0 (n := 3) rfl (by decide) (by decide)) fun w ⟨kd, ew, hkd⟩ => ?_
  subst ew
  have m6 := hm2.mono (show (5 : Int) ≤ 6 by decide) (show (20 : Int) ≤ 21 by decide)
  have y6 := y2.mono (show (5 : Int) ≤ 6 by decide) (show (20 : Int) ≤ 21 by decide)
  refine go_ifJ (Pb := IsB (decide (((kd : Nat) : Int) > 0))) (fun ds' => ∃ ly : List LT, ly.length ≤ 12 ∧ LBs 6 21 ly ∧ ds' = [some (.v (.ref b)), some (.d (.str (S w0))), some (.d (.list (tsD (upR lm)))), some (.d (.list (tsD (upR lr)))), some (.d (.int (at_ : Nat))), some (.d (.list (tsD (upR ly)))), some (.d (.int (kd : Nat))), none, none, none, none, none, none]) ?_ (fun _ D' _ nx => ?_) (fun _ D' _ nx => ?_) ?_
  · walk_at "et"
  · refine go_asg (P := UX fun l => l.length ≤ 12 ∧ LBs 6 21 l) (evn_if (Pb := IsB (((kd : Nat) : Int) == 1)) ?_ (fun _ => ?_) fun _ => ?_) fun w ⟨ly', ew, g1, g2⟩ => ?_
    · walk_at "et"
    · refine (ec_law_moved_block (row := upR ly) (ea_cons (ev_var rfl) (ea_one (ev_var rfl))) (LOk.rlw y2.ok) (by rw [upR_len]; omega)).imp fun w ⟨row', e, hmv⟩ => ?_
      obtain ⟨l', e2, g1, g2⟩ := mvb_up hmv y2
      exact ⟨l', by rw [e, e2], by omega, g1⟩
    · exact (ec_law_nested (ea_cons (ev_var rfl) (ea_one (ev_var rfl))) hw w1 (by omega)).imp fun w ⟨l, e, l1, l2⟩ => ⟨l, e, by omega, l2.mono (by decide) (by decide)⟩
    · subst ew
      exact go_next (nx _ ⟨ly', g1, g2, rfl⟩)
  · exact go_next (nx _ ⟨ly, by omega, y6, rfl⟩)
  rintro ds' ⟨ly, hl12, hly, rfl⟩
  have ok : LOk (lm ++ invL ly) := fun t ht => (List.mem_append.mp ht).elim (m6.ok t) (hly.inv.ok t)
  have ok2 : LOk (ly ++ invL lm) := fun t ht => (List.mem_append.mp ht).elim (hly.ok t) (m6.inv.ok t)
  have hlen1 : (lm ++ invL ly).length ≤ 24 := by rw [List.length_append, invL_len]; omega
  have hlen2 : (ly ++ invL lm).length ≤ 24 := by rw [List.length_append, invL_len]; omega
  have ask1 := askL m6 hly (by omega) hl12
  have ask2 := askL hly m6 hl12 (by omega)
  have ans1 := answerL m6 hly
  apply go_set (ev_rowL (i := 2) (j := 5) (s := 9) (p := 10) (q := 11) (m := lm) (y := ly) rfl rfl (by omega) (by omega) fun t => ⟨rfl, rfl, rfl⟩)
  apply go_set (ec_law_letter_steps (l := lm ++ invL ly) (ea_one (ev_var rfl)) ok (by omega))
  have bA := b1 (answer (upR lm) (upR ly) (hsD (letterSteps (lm ++ invL ly))))
  have hshl := shaped_L (LOk.rlw (l := (lastT (lm ++ invL ly)).reverse) fun t ht => by
    have h := (lastT_ok ok (lm ++ invL ly).length).1
    rw [List.take_length] at h
    exact h t (List.mem_reverse.mp ht))
  refine go_ifF (et_is (et_test (ev_op (x := .d (.str (PyData.bool (answer (upR lm) (upR ly) (hsD (letterSteps (lm ++ invL ly))))).shown)) (y := .d (.str (PyData.bool (answer (upR lm) (upR ly) (hsD (letterSteps (lm ++ invL ly))))).shown)) (ev_cb (ea_one (ec_accepts (ea_cons (ev_tup (xs := [.str (Str.ofString "same"), .tuple (tsD (upR lm)), .tuple (tsD (upR ly))]) (ea_cons ev_str (ea_cons (ev_cb (ea_one (ev_var rfl)) rc_tupL) (ea_one (ev_cb (ea_one (ev_var rfl)) rc_tupL)))) (by simp)) (ea_one (ev_var rfl))) ask1)) (rc_repr bA.1 bA.2.1 bA.2.2.1 bA.2.2.2)) (ev_cb (ea_one (ev_is (ev_op (x := .d (.list (tsD (upR (lastT (lm ++ invL ly)).reverse)))) (y := .d (.list [])) (ec_law_lasting (ea_one (ev_var rfl)) ok (by omega)) (ev_lst (xs := []) ea_nil (by simp)) (rv_eqD rfl hshl rfl)) (by rw [eqv_nilL, ans1]; cases lastT (lm ++ invL ly) <;> simp [tsD, upR]))) (rc_repr bA.1 bA.2.1 bA.2.2.1 bA.2.2.2)) rv_neS)) (by rw [beq_self_eq_true]; rfl)) (go_skip ?_)
  exact go_ret R (P := Is (.d (.bool true))) (ec_law_asked_right (t := true) (a := upR ly) (b := upR lm) (l := hsD (letterSteps (ly ++ invL lm))) (ea_cons (ev_var rfl) (ea_cons (ev_var rfl) (ea_one (ec_law_letter_steps (l := ly ++ invL lm) (ea_one (ev_rowL (i := 5) (j := 2) (s := 12) (p := 10) (q := 11) (m := ly) (y := lm) rfl rfl (by omega) (by omega) fun t => ⟨rfl, rfl, rfl⟩)) ok2 (by omega))))) ask2) fun w e => e
theorem ec_law_by_letters {b : Addr} (h : EvA K (some b) ta ds (IsA [.v (.ref b)])) : Ev K (some b) (tCall (sp_law_by_letters K) [] E0 ta) ds (Is (.d (.bool true))) := ev_callB () h rfl rfl trivial
end
end Kn

set_option Elab.async false
set_option linter.all false
set_option maxRecDepth 100000
set_option maxHeartbeats 4000000
/-! Each draw is asked right. -/
namespace Kn
open PySem PySem.Spec PyProof.Rows L2
local macro_rules | `(tactic| walk_at "sd") => `(tactic| first | trivial | assumption | walk_at "sz")
local macro_rules | `(tactic| walk_at "sz") => `(tactic| first | assumption | decide | omega | rfl | (simp only [List.length_append, List.length_map, List.length_cons, List.length_nil, List.length_reverse]; omega))
local macro_rules | `(tactic| walk_at "rv") => `(tactic| with_reducible first
  | exact rv_ix0 | exact rv_ix1 | exact rv_ix2 | exact rv_eqI | exact rv_neI | exact rv_eqE | exact rv_neE | exact rv_eqW | exact rv_neW | exact rv_eqS | exact rv_neS
  | exact rv_int0 | exact rv_bl0
  | exact rv_ixT0 | exact rv_ixT1
  | exact rv_ixRT (by assumption) | exact rv_ixRL (by assumption) | (apply rv_ixW; walk_at "sz"; assumption)
  | (refine rv_addW ?_; walk_at "sz")
  | (refine rv_catRT ?_; walk_at "sz") | (refine rv_catRL ?_; walk_at "sz")
  | (refine rv_intC ?_; assumption) | (apply rv_mulW; walk_at "sz"; walk_at "sz"; walk_at "sz")
  | exact rv_inW | exact rv_inSign | exact rv_isN | exact rv_notN | exact rv_notBl
  | exact rv_ixT (by with_unfolding_all rfl) | exact rv_ixL (by with_unfolding_all rfl)
  | exact rv_ixT (by assumption) | exact rv_ixL (by assumption)
  | (refine rv_catA ?_; walk_at "sz") | (refine rv_cat ?_; walk_at "sz"))
local macro_rules | `(tactic| walk_at "rs") => `(tactic| with_reducible first
  | exact rs_rT | exact rs_rL
  | (refine rs_w ?_ ?_; walk_at "sz"; (with_unfolding_all first | exact Nat.zero_le _ | exact HT.sIx_le _ _ (Nat.zero_le _) _ | assumption))
  | exact rs_tup | exact rs_list
  | (refine rs_str ?_; walk_at "sz"))
local macro_rules | `(tactic| walk_at "rc") => `(tactic| with_reducible first
  | exact rc_lenD3 | exact rc_lenRT | exact rc_lenRL | exact rc_lenT | exact rc_lenL | (refine rc_lenW ?_; walk_at "sz") | (refine rc_lenS ?_; walk_at "sz")
  | exact rc_isi (kit_int _) | exact rc_isi (kit_bool _) | exact rc_isi (kit_str _) | exact rc_isi (kit_tup _)
  | exact rc_max | exact rc_min | exact rc_int | exact rc_abs | exact rc_all | exact rc_tupL | exact rc_tupT | exact rc_list | exact rc_listT | (refine rc_listW ?_; walk_at "sz"))
local macro_rules | `(tactic| walk_at "rm") => `(tactic| first | (with_reducible apply rm_lowW; assumption; walk_at "sz") | (with_reducible apply rm_upW; assumption; walk_at "sz"))
local macro_rules | `(tactic| walk_at "ea") => `(tactic| first
  | with_reducible exact ea_nil
  | ((with_reducible apply ea_cons); walk_at "ev"; walk_at "ea"))
local macro_rules | `(tactic| walk_at "eo") => `(tactic| first
  | with_reducible exact eo_none
  | ((with_reducible apply eo_some); walk_at "ev"))
local macro_rules | `(tactic| walk_at "et") => `(tactic| first
  | ((with_reducible apply et_test); walk_at "ev")
  | ((with_reducible apply et_B); walk_at "ev")
  | ((with_reducible apply et_not); walk_at "et")
  | ((with_reducible apply et_and); walk_at "et"; intro _; walk_at "et")
  | ((with_reducible apply et_or); walk_at "et"; intro _; walk_at "et"))
local macro_rules | `(tactic| walk_at "ev") => `(tactic| first
  | with_reducible exact ev_int | with_reducible exact ev_str | with_reducible exact ev_bl | with_reducible exact ev_non | with_reducible exact ev_val
  | ((with_reducible apply ev_var); exact rfl)
  | ((with_reducible apply ev_op); walk_at "ev"; walk_at "ev"; walk_at "rv")
  | ((with_reducible apply ev_un); walk_at "ev"; exact ru_neg)
  | ((with_reducible apply ev_and); walk_at "ev"; intro _; walk_at "ev")
  | ((with_reducible apply ev_or); walk_at "ev"; intro _; walk_at "ev")
  | ((with_reducible apply ev_not); walk_at "ev")
  | ((with_reducible apply ev_sl); walk_at "ev"; walk_at "eo"; walk_at "eo"; walk_at "rs")
  | ((with_reducible apply ev_chain); walk_at "ev"; walk_at "ev"; walk_at "rv"; (intro _; walk_at "ev"); (intro _; walk_at "rv"))
  | walk_at "ec"
  | ((with_reducible apply ev_if); walk_at "et"; (intro _; walk_at "ev"); (intro _; walk_at "ev"))
  | ((with_reducible apply ev_m0); walk_at "ev"; walk_at "rm")
  | ((with_reducible apply ev_cb); walk_at "ea"; walk_at "rc")
  | ((with_reducible apply ev_tD); walk_at "ea")
  | with_reducible exact ev_rT0 | with_reducible exact ev_rL0
  | ((with_reducible apply ev_rT1); walk_at "ea") | ((with_reducible apply ev_rT2); walk_at "ea") | ((with_reducible apply ev_rT3); walk_at "ea")
  | ((with_reducible apply ev_rL1); walk_at "ea") | ((with_reducible apply ev_rL2); walk_at "ea") | ((with_reducible apply ev_rL3); walk_at "ea") | ((with_reducible apply ev_rL4); walk_at "ea")
  | ((with_reducible apply ev_revW); walk_at "ev"; walk_at "sz")
  | ((with_reducible apply ev_revL); walk_at "ev")
  | ((with_reducible apply ev_revT); walk_at "ev"))
local macro_rules | `(tactic| walk_at "ret") => `(tactic| (apply go_retE; assumption; exact rfl; walk_at "ev"))
local macro_rules | `(tactic| walk_at "if") => `(tactic| (apply go_if; walk_at "et"))
local macro_rules | `(tactic| walk_at "set") => `(tactic| (apply go_set; walk_at "ev"))
local macro_rules | `(tactic| walk_at "eg") => `(tactic| first | exact eg_name (by decide) | exact eg_tD (by decide) (by decide) (by decide))
theorem tot_le {l : Row} (h : ∀ t ∈ l, t.1.length ≤ 12) : tot l ≤ 13 * l.length := by
  induction l with
  | nil => exact Nat.le_refl _
  | cons a l ih =>
    rw [tot_cons, List.length_cons]
    have h1 := h a List.mem_cons_self
    have h2 := ih fun t ht => h t (List.mem_cons_of_mem _ ht)
    omega
theorem blk_inv {t : Tr} (h : Blk t) : Blk (invT t) := ⟨h.w, h.l1, h.l2, by have := h.p2; show -9 ≤ -t.2.1; omega, by have := h.p1; show -t.2.1 ≤ 9; omega, by have := h.q2; show -99 ≤ -t.2.2; omega, by have := h.q1; show -t.2.2 ≤ 99; omega⟩
theorem inv_mem {l : Row} {t : Tr} (h : t ∈ invR l) : ∃ u ∈ l, t = invT u := by
  unfold invR at h
  obtain ⟨x, hx, rfl⟩ := List.mem_map.mp h
  exact ⟨x, List.mem_reverse.mp hx, rfl⟩
theorem inv_inv (l : Row) : invR (invR l) = l := by
  unfold invR
  rw [← List.map_reverse, List.reverse_reverse, List.map_map]
  conv => rhs; rw [← List.map_id l]
  refine List.map_congr_left fun t _ => ?_
  show (t.1, - -t.2.1, - -t.2.2) = t
  rw [Int.neg_neg, Int.neg_neg]
theorem askR {m y : Row} {l : List PyData} (hm : ∀ t ∈ m, Blk t) (hy : ∀ t ∈ y, Blk t) (m1 : m.length ≤ 12) (y1 : y.length ≤ 12) (hst : ∀ d ∈ l, StOk d) (hl : l.length ≤ 200) (hsz : (312 + 2 * l.length) * 2 ^ nsp l ≤ 40000) : Ask m y l := by
  refine ⟨⟨m1, hm⟩, ⟨y1, hy⟩, ⟨fun t ht => ?_, hst, ?_⟩, by omega⟩
  · rcases List.mem_append.mp ht with h | h
    · exact (hm t h).w
    · obtain ⟨u, hu, rfl⟩ := inv_mem h
      exact (hy u hu).w
  · have h1 := tot_le fun t ht => (hm t ht).l2
    have h2 : tot (invR y) ≤ 13 * (invR y).length := tot_le fun t ht => by
      obtain ⟨u, hu, rfl⟩ := inv_mem ht
      exact (hy u hu).l2
    rw [invR_len] at h2
    rw [tot_app]
    exact Nat.le_trans (Nat.mul_le_mul_right _ (by omega)) hsz
theorem blkP_blk {t : Tr} (h : BlkP t) : Blk t := ⟨h.w, h.l1, h.l2, by have := h.p1; omega, by have := h.p2; omega, by have := h.q1; omega, by have := h.q2; omega⟩
theorem szB (n s n0 s0 : Nat) (h1 : n ≤ n0) (h2 : s ≤ s0) (h : (312 + 2 * n0) * 2 ^ s0 ≤ 40000) : (312 + 2 * n) * 2 ^ s ≤ 40000 :=
  Nat.le_trans (Nat.mul_le_mul (by omega) (Nat.pow_le_pow_right (by decide) h2)) h
section
variable {P : Program} {w w' : World} {K K' : PySem.W.Frag} {mg : Str → Option Value} {base : Heap} {r : Res} {ds : Sl} {ta : TA}
def sp_law_right (K : PySem.W.Frag) : Sp := spB K (fun _ : Unit => []) (fun _ => True) fun _ => Is (.d (.bool true))
-- slots: 0=_law_bag_here 1=_law_step 2=_law_row 3=_law_steps 4=_law_at 5=_law_mine 6=_law_yours 7=_law_strand 8=_law_by 9=_law_over
theorem sc_law_right : FnScope ["_law_bag_here", "_law_step", "_law_row", "_law_steps", "_law_at", "_law_mine", "_law_yours", "_law_strand", "_law_by", "_law_over"] ["_law_bag_here"] (defScope s_law_right) := C8.fnScope_by (by decide +kernel)
theorem c_law_right (T : Tx K mg w) : CalG P w K mg base 11 "_law_right" ["_law_bag_here"] (sp_law_right K) := by
  refine calGG T.e_law_right T.g_law_right sc_law_right (fun _ _ _ _ _ _ us hl => match us, hl with | [_], _ => rfl) (fun _ _ => rfl) fun f cdv A outer s H E hG hr => ?_
  refine ⟨_, (pss_cons (ps_for PassesOwn.never rfl (pi_range1 (by rfl) T.f_range (pa_cons pe_int pa_nil)) (pg_name (i := 1) sc_law_right.nd rfl (Or.inl rfl)) (pss_cons (ps_asg (pe_c (c_law_papers T) hr (by decide) (by rfl) (pa_cons (pv 0) pa_nil)) (pg_tup rfl (pgs_cons (pg_name (i := 2) sc_law_right.nd rfl (Or.inl rfl)) (pgs_cons (pg_name (i := 3) sc_law_right.nd rfl (Or.inl rfl)) pgs_nil))))
    (pss_cons (ps_set (i := 4) sc_law_right.nd rfl (Or.inl rfl) (pe_c (c_law_take T) hr (by decide) (by rfl) (pa_cons (pv 0) (pa_cons (pe_op op_add (pe_callB call_len_seq (by rfl) T.f_len PySem.boot_len (pa_cons (pv 2) pa_nil)) pe_int) pa_nil))))
    (pss_cons (ps_par (i := 5) (j := 6) rfl sc_law_right.nd rfl rfl (by decide) rfl rfl (pa_cons (pe_slice sl_list (pv 2) po_none (po_some (pv 4))) (pa_cons (pe_lc (te := (tTup (tCons (tVar 7) (tCons (tUn _ (tVar 8)) (tCons (tUn _ (tVar 9)) tNil))))) (own := [("_law_strand", 7), ("_law_by", 8), ("_law_over", 9)]) (g := (gTup K 3 (gCons (gName 7) (gCons (gName 8) (gCons (gName 9) gNil))))) (tt := tYes) rfl sc_law_right.nd (pi_list (pe_revL (pe_slice sl_list (pv 2) (po_some (pv 4)) po_none))) (blkOk_by (own := [("_law_strand", 7), ("_law_by", 8), ("_law_over", 9)]) (N := ["_law_bag_here", "_law_step", "_law_row", "_law_steps", "_law_at", "_law_mine", "_law_yours", "_law_strand", "_law_by", "_law_over"]) (sc := defScope s_law_right) (by decide +kernel)) (fun _ _ _ _ _ => (pg_tup rfl (pgs_cons (pg_name (i := 7) sc_law_right.nd rfl (Or.inl rfl)) (pgs_cons (pg_name (i := 8) sc_law_right.nd rfl (Or.inl rfl)) (pgs_cons (pg_name (i := 9) sc_law_right.nd rfl (Or.inl rfl)) pgs_nil))))) (fun _ _ _ _ _ => pts_nil) (fun _ _ _ _ _ => (pe_tup (pa_cons (pv 7) (pa_cons (pe_un un_neg (pv 8)) (pa_cons (pe_un un_neg (pv 9)) pa_nil)))))) pa_nil)) (by rfl))
    (pss_cons (ps_if (pt_cmpR op_notBl (pe_c (c_accepts T) hr (by decide) (by rfl) (pa_cons (pe_tup (pa_cons pe_str (pa_cons (pe_callTy call_tuple_of (by rfl) T.f_tuple (by decide +kernel) (pa_cons (pv 5) pa_nil)) (pa_cons (pe_callTy call_tuple_of (by rfl) T.f_tuple (by decide +kernel) (pa_cons (pv 6) pa_nil)) pa_nil)))) (pa_cons (pe_callTy call_tuple_of (by rfl) T.f_tuple (by decide +kernel) (pa_cons (pv 3) pa_nil)) pa_nil))) pe_bl (nomark _)) (pss_cons (ps_ret pe_bl)
    pss_nil) pss_nil)
    (pss_cons (ps_if (PW.pt (pw_or (pt_not (pt_val (pe_cG (c_law_asked_right T) hG hr (by decide) (by rfl) (pa_cons (pv 5) (pa_cons (pv 6) (pa_cons (pv 3) pa_nil)))))) (pw_or1 (pt_not (pt_val (pe_cG (c_law_asked_right T) hG hr (by decide) (by rfl) (pa_cons (pv 6) (pa_cons (pv 5) (pa_cons (pv 3) pa_nil))))))))) (pss_cons (ps_ret pe_bl)
    pss_nil) pss_nil)
    (pss_cons (ps_if (pt_not (pt_val (pe_cG (c_law_asked_right T) hG hr (by decide) (by rfl) (pa_cons (pv 5) (pa_cons (pv 6) (pa_cons (pe_c (c_law_bent T) hr (by decide) (by rfl) (pa_cons (pv 0) (pa_cons (pv 3) pa_nil))) pa_nil)))))) (pss_cons (ps_ret pe_bl)
    pss_nil) pss_nil)
    (pss_cons (ps_if (PW.pt (pw_or (pt_not (pt_val (pe_cG (c_law_asked_right T) hG hr (by decide) (by rfl) (pa_cons (pv 5) (pa_cons (pe_c (c_law_moved_block T) hr (by decide) (by rfl) (pa_cons (pv 0) (pa_cons (pv 6) pa_nil))) (pa_cons (pv 3) pa_nil)))))) (pw_or1 (pt_not (pt_val (pe_cG (c_law_by_letters T) hG hr (by decide) (by rfl) (pa_cons (pv 0) pa_nil))))))) (pss_cons (ps_ret pe_bl)
    pss_nil) pss_nil)
    pss_nil))))))))
    (pss_cons (ps_ret pe_bl)
    pss_nil)), ?_⟩
  intro a r F0 H0 D hp R
  dsimp only [nox_K]
  obtain ⟨hr1, _⟩ := hp
  obtain ⟨b, rfl⟩ := Option.isSome_iff_exists.mp hr1
  refine go_for (vs := [1]) (xs := rangeP 3) R (fun i o ds => o = none ∧ ∃ s1 s2 s3 s4 s5 s6 s7 s8 s9 : Option Da, ds = [some (.v (.ref b)), s1, s2, s3, s4, s5, s6, s7, s8, s9]) (ei_range (ea_one ev_int) (by decide) (by decide)) ⟨rfl, none, none, none, none, none, none, none, none, none, rfl⟩ ?_ ?_
  · rintro H1 i d o' ds' hd _ ⟨rfl, s1, s2, s3, s4, s5, s6, s7, s8, s9, rfl⟩
    refine ⟨_, eg_name (by decide), fun D' R' nx => ?_⟩
    refine go_unp (P := PapX 10 50 2) (vs := [2, 3]) (ec_law_papers (ea_one (ev_var rfl))) fun w ⟨row, hs, ew, pap⟩ => ?_
    subst ew
    refine ⟨_, eg_tup (xs := [.list (tsD row), .list (hsD hs)]) (egs_cons (eg_name (by decide)) (egs_cons (eg_name (by decide)) egs_nil)) rfl, ?_⟩
    have plen := pap.len
    have phlen := pap.hlen
    refine go_asg (P := Dr (row.length + 1)) (ec_law_take (n := row.length + 1) (ea_cons (ev_var rfl) (ea_one (ev_op (ev_cb (ea_one (ev_var rfl)) rc_lenRL) ev_int rv_int0))) (by omega) (by omega)) fun w ⟨at_, ew, hat⟩ => ?_
    subst ew
    have hblk : ∀ t ∈ row, Blk t := fun t ht => blkP_blk (pap.blk t ht)
    -- the two windings
    have hM : ∀ t ∈ row.take at_, Blk t := fun t ht => hblk t (List.mem_of_mem_take ht)
    have hY : ∀ t ∈ invR (row.drop at_), Blk t := fun t ht => by
      obtain ⟨u, hu, rfl⟩ := inv_mem ht
      exact blk_inv (hblk u (List.mem_of_mem_drop hu))
    have lM : (row.take at_).length ≤ 10 := by rw [List.length_take]; omega
    have lY : (invR (row.drop at_)).length ≤ 10 := by rw [invR_len, List.length_drop]; omega
    have hstok : ∀ d ∈ hsD hs, StOk d := fun d hd => by
      obtain ⟨h, hh, rfl⟩ := List.mem_map.mp hd
      exact stok_h (pap.hok h hh) (by decide)
    have hhl : (hsD hs).length = hs.length := List.length_map _
    have hns : nsp (hsD hs) ≤ 2 := by rw [nsp_h]; exact pap.spl
    have szH : (312 + 2 * (hsD hs).length) * 2 ^ nsp (hsD hs) ≤ 40000 := szB _ _ 50 2 (by omega) hns (by decide)
    have ask1 : Ask (row.take at_) (invR (row.drop at_)) (hsD hs) := askR hM hY (by omega) (by omega) hstok (by omega) szH
    have ask2 : Ask (invR (row.drop at_)) (row.take at_) (hsD hs) := askR hY hM (by omega) (by omega) hstok (by omega) szH
    have ans : answer (row.take at_) (invR (row.drop at_)) (hsD hs) = true := by
      unfold answer
      rw [inv_inv, List.take_append_drop]
      have := pap.done
      unfold srun at this
      rw [this]
      rfl
    generalize hMe : row.take at_ = M at hM lM ask1 ask2 ans
    have hYP : ∀ t ∈ invR (row.drop at_), BlkP t := fun t ht => by
      obtain ⟨u, hu, rfl⟩ := inv_mem ht
      have h := pap.blk u (List.mem_of_mem_drop hu)
      exact ⟨h.w, h.l1, h.l2, by have := h.p2; show -8 ≤ -u.2.1; omega, by have := h.p1; show -u.2.1 ≤ 8; omega, by have := h.q2; show -20 ≤ -u.2.2; omega, by have := h.q1; show -u.2.2 ≤ 20; omega⟩
    generalize hYe : invR (row.drop at_) = Y at hY lY hYP ask1 ask2 ans
    refine go_par (Pa := IsA [.d (.list (tsD M)), .d (.list (tsD Y))]) (ea_cons (ev_is (ev_sl (w := .d (.list (tsD row))) (ev_var rfl) eo_none (eo_some (ev_var rfl)) rs_rL) (by rw [cutG_take, hMe])) (ea_one (ev_is (ev_lcmap (gd := tD) (fd := fun c => tD (invT c)) (row.drop at_).reverse ?_ (by rw [List.length_reverse, List.length_drop]; omega) (fun c _ => eg_tD (by decide) (by decide) (by decide)) fun c hc => ?_) ?_))) fun ws e => ⟨_, _, e, ?_⟩
    · have hrev : (tsD (row.drop at_)).reverse = (row.drop at_).reverse.map tD := by unfold tsD; rw [List.map_reverse]
      rw [← hrev, ← cutG_drop]
      exact ei_list (ev_revL (ev_sl (w := .d (.list (tsD row))) (ev_var rfl) (eo_some (ev_var rfl)) eo_none rs_rL))
    · exact ev_tD (a := c.1) (b := -c.2.1) (c := -c.2.2) (ea_cons (ev_var rfl) (ea_cons (ev_un (ev_var rfl) ru_neg) (ea_one (ev_un (ev_var rfl) ru_neg))))
    · rw [← hYe]
      unfold invR tsD
      rw [List.map_map]
      rfl
    -- what was made by hand
    refine go_ifF ?_ (go_skip ?_)
    · refine et_is (et_test (ev_op (x := .d (.bool (answer M Y (hsD hs)))) (y := .d (.bool true)) (ec_accepts (ea_cons (ev_tup (xs := [.str (Str.ofString "same"), .tuple (tsD M), .tuple (tsD Y)]) (ea_cons ev_str (ea_cons (ev_cb (ea_one (ev_var rfl)) rc_tupL) (ea_one (ev_cb (ea_one (ev_var rfl)) rc_tupL)))) (by simp)) (ea_one (ev_cb (ea_one (ev_var rfl)) rc_tupL))) ask1) ev_bl rv_notBl)) ?_
      rw [ans]
      rfl
    have tst : ∀ {te : TE} {ds : Sl}, Ev K (some b) te ds (Is (.d (.bool true))) → EvT K (some b) (tNot (tB te)) ds (IsB false) := fun h => et_is (et_not (et_B h)) rfl
    refine go_ifF (et_orF (tst (ec_law_asked_right (t := false) (a := M) (b := Y) (l := hsD hs) (ea_cons (ev_var rfl) (ea_cons (ev_var rfl) (ea_one (ev_var rfl)))) ask1)) (tst (ec_law_asked_right (t := false) (a := Y) (b := M) (l := hsD hs) (ea_cons (ev_var rfl) (ea_cons (ev_var rfl) (ea_one (ev_var rfl)))) ask2))) (go_skip ?_)
    refine go_ifF (tst (evn_call (ean3 (ev_var rfl) (ev_var rfl) (ec_law_bent (hs := hs) (ea_cons (ev_var rfl) (ea_one (ev_var rfl))) pap.pos (by omega) (fun h hh => (pap.hok h hh).mono (by decide)) pap.spl)) ?_)) (go_skip ?_)
    · rintro ws ⟨_, _, _, rfl, rfl, ⟨l, rfl, b1, b2, b3⟩, rfl⟩
      have ask3 : Ask M Y l := askR hM hY (by omega) (by omega) b1 (by omega) (szB _ _ 152 6 b2 b3 (by decide))
      exact ⟨(M, Y, l, false), rfl, ask3, fun w e => e⟩
    refine go_ifF (et_orF (tst (evn_call (ean3 (ev_var rfl) (ec_law_moved_block (row := Y) (ea_cons (ev_var rfl) (ea_one (ev_var rfl))) (fun t ht => (hY t ht).w) (by omega)) (ev_var rfl)) ?_)) (tst (ec_law_by_letters (ea_one (ev_var rfl))))) (go_skip ?_)
    · rintro ws ⟨_, _, _, rfl, ⟨Y', rfl, mv1, mv2⟩, rfl, rfl⟩
      have ask4 : Ask M Y' (hsD hs) := askR hM (fun t' ht' => ?_) (by omega) (by omega) hstok (by omega) szH
      · exact ⟨(M, Y', hsD hs, false), rfl, ask4, fun w e => e⟩
      rcases mv2 t' ht' with e | ⟨t, ht, g1, g2, g3, g4, g5⟩
      · rw [e]
        exact ⟨lw1 (by decide), by decide, by decide, by decide, by decide, by decide, by decide⟩
      · have hb := hYP t ht
        have p1 := hb.p1
        have p2 := hb.p2
        have q1 := hb.q1
        have q2 := hb.q2
        exact ⟨by rw [g1]; exact hb.w, by rw [g1]; exact hb.l1, by rw [g1]; exact hb.l2, by omega, by omega, by omega, by omega⟩
    exact go_next (nx none _ rfl ⟨rfl, _, _, _, _, _, _, _, _, _, rfl⟩)
  · rintro o' ds' _ ⟨rfl, s1, s2, s3, s4, s5, s6, s7, s8, s9, rfl⟩
    exact go_ret R (P := Is (.d (.bool true))) ev_bl fun w e => e
theorem ec_law_right {b : Addr} (h : EvA K (some b) ta ds (IsA [.v (.ref b)])) : Ev K (some b) (tCall (sp_law_right K) [] E0 ta) ds (Is (.d (.bool true))) := ev_callB () h rfl rfl trivial
end
end Kn

set_option Elab.async false
set_option linter.all false
set_option maxRecDepth 100000
set_option maxHeartbeats 4000000
/-! The law. -/
namespace Kn
open PySem PySem.Spec PyProof.Rows L2
local macro_rules | `(tactic| walk_at "sd") => `(tactic| first | trivial | assumption | walk_at "sz")
local macro_rules | `(tactic| walk_at "sz") => `(tactic| first | assumption | decide | omega | rfl | (simp only [List.length_append, List.length_map, List.length_cons, List.length_nil, List.length_reverse]; omega))
local macro_rules | `(tactic| walk_at "rv") => `(tactic| with_reducible first
  | exact rv_ix0 | exact rv_ix1 | exact rv_ix2 | exact rv_eqI | exact rv_neI | exact rv_eqE | exact rv_neE | exact rv_eqW | exact rv_neW | exact rv_eqS | exact rv_neS
  | exact rv_int0 | exact rv_bl0
  | exact rv_ixT0 | exact rv_ixT1
  | exact rv_ixRT (by assumption) | exact rv_ixRL (by assumption) | (apply rv_ixW; walk_at "sz"; assumption)
  | (refine rv_addW ?_; walk_at "sz")
  | (refine rv_catRT ?_; walk_at "sz") | (refine rv_catRL ?_; walk_at "sz")
  | (refine rv_intC ?_; assumption) | (apply rv_mulW; walk_at "sz"; walk_at "sz"; walk_at "sz")
  | exact rv_inW | exact rv_inSign | exact rv_isN | exact rv_notN | exact rv_notBl
  | exact rv_ixT (by with_unfolding_all rfl) | exact rv_ixL (by with_unfolding_all rfl)
  | exact rv_ixT (by assumption) | exact rv_ixL (by assumption)
  | (refine rv_catA ?_; walk_at "sz") | (refine rv_cat ?_; walk_at "sz"))
local macro_rules | `(tactic| walk_at "rs") => `(tactic| with_reducible first
  | exact rs_rT | exact rs_rL
  | (refine rs_w ?_ ?_; walk_at "sz"; (with_unfolding_all first | exact Nat.zero_le _ | exact HT.sIx_le _ _ (Nat.zero_le _) _ | assumption))
  | exact rs_tup | exact rs_list
  | (refine rs_str ?_; walk_at "sz"))
local macro_rules | `(tactic| walk_at "rc") => `(tactic| with_reducible first
  | exact rc_lenD3 | exact rc_lenRT | exact rc_lenRL | exact rc_lenT | exact rc_lenL | (refine rc_lenW ?_; walk_at "sz") | (refine rc_lenS ?_; walk_at "sz")
  | exact rc_isi (kit_int _) | exact rc_isi (kit_bool _) | exact rc_isi (kit_str _) | exact rc_isi (kit_tup _)
  | exact rc_max | exact rc_min | exact rc_int | exact rc_abs | exact rc_all | exact rc_tupL | exact rc_tupT | exact rc_list | exact rc_listT | (refine rc_listW ?_; walk_at "sz"))
local macro_rules | `(tactic| walk_at "rm") => `(tactic| first | (with_reducible apply rm_lowW; assumption; walk_at "sz") | (with_reducible apply rm_upW; assumption; walk_at "sz"))
local macro_rules | `(tactic| walk_at "ea") => `(tactic| first
  | with_reducible exact ea_nil
  | ((with_reducible apply ea_cons); walk_at "ev"; walk_at "ea"))
local macro_rules | `(tactic| walk_at "eo") => `(tactic| first
  | with_reducible exact eo_none
  | ((with_reducible apply eo_some); walk_at "ev"))
local macro_rules | `(tactic| walk_at "et") => `(tactic| first
  | ((with_reducible apply et_test); walk_at "ev")
  | ((with_reducible apply et_B); walk_at "ev")
  | ((with_reducible apply et_not); walk_at "et")
  | ((with_reducible apply et_and); walk_at "et"; intro _; walk_at "et")
  | ((with_reducible apply et_or); walk_at "et"; intro _; walk_at "et"))
local macro_rules | `(tactic| walk_at "ev") => `(tactic| first
  | with_reducible exact ev_int | with_reducible exact ev_str | with_reducible exact ev_bl | with_reducible exact ev_non | with_reducible exact ev_val
  | ((with_reducible apply ev_var); exact rfl)
  | ((with_reducible apply ev_op); walk_at "ev"; walk_at "ev"; walk_at "rv")
  | ((with_reducible apply ev_un); walk_at "ev"; exact ru_neg)
  | ((with_reducible apply ev_and); walk_at "ev"; intro _; walk_at "ev")
  | ((with_reducible apply ev_or); walk_at "ev"; intro _; walk_at "ev")
  | ((with_reducible apply ev_not); walk_at "ev")
  | ((with_reducible apply ev_sl); walk_at "ev"; walk_at "eo"; walk_at "eo"; walk_at "rs")
  | ((with_reducible apply ev_chain); walk_at "ev"; walk_at "ev"; walk_at "rv"; (intro _; walk_at "ev"); (intro _; walk_at "rv"))
  | walk_at "ec"
  | ((with_reducible apply ev_if); walk_at "et"; (intro _; walk_at "ev"); (intro _; walk_at "ev"))
  | ((with_reducible apply ev_m0); walk_at "ev"; walk_at "rm")
  | ((with_reducible apply ev_cb); walk_at "ea"; walk_at "rc")
  | ((with_reducible apply ev_tD); walk_at "ea")
  | with_reducible exact ev_rT0 | with_reducible exact ev_rL0
  | ((with_reducible apply ev_rT1); walk_at "ea") | ((with_reducible apply ev_rT2); walk_at "ea") | ((with_reducible apply ev_rT3); walk_at "ea")
  | ((with_reducible apply ev_rL1); walk_at "ea") | ((with_reducible apply ev_rL2); walk_at "ea") | ((with_reducible apply ev_rL3); walk_at "ea") | ((with_reducible apply ev_rL4); walk_at "ea")
  | ((with_reducible apply ev_revW); walk_at "ev"; walk_at "sz")
  | ((with_reducible apply ev_revL); walk_at "ev")
  | ((with_reducible apply ev_revT); walk_at "ev"))
local macro_rules | `(tactic| walk_at "ret") => `(tactic| (apply go_retE; assumption; exact rfl; walk_at "ev"))
local macro_rules | `(tactic| walk_at "if") => `(tactic| (apply go_if; walk_at "et"))
local macro_rules | `(tactic| walk_at "set") => `(tactic| (apply go_set; walk_at "ev"))
local macro_rules | `(tactic| walk_at "eg") => `(tactic| first | exact eg_name (by decide) | exact eg_tD (by decide) (by decide) (by decide))
def m0 : Row := [([97, 98], 1, 0), ([97], 0, 1)]
def y0 : Row := [([97], 0, 1), ([98, 97], 1, 0)]
def st1 : List HS := [(.turn, [2]), (.turn, [2]), (.turn, [3]), (.turn, [3]), (.back, [2, 1])]
def st2 : List HS := [(.turn, [2]), (.glue, [1]), (.undo, [1, 0]), (.out, [1]), (.join, [0]), (.out, [0])]
def st3 : List HS := [(.back, [1, 1]), (.join, [0]), (.out, [0]), (.join, [0]), (.out, [0])]
theorem ansA : answer [] [] (hsD []) = true := by decide +kernel
theorem ansB : answer m0 y0 (hsD st1) = false := by decide +kernel
theorem ansC : answer m0 m0 (hsD []) = false := by decide +kernel
theorem ansD : answer m0 m0 (hsD st2) = true := by decide +kernel
theorem ansE : answer m0 y0 (hsD st2) = false := by decide +kernel
theorem ansF : answer m0 y0 (hsD st3) = true := by decide +kernel
theorem blk_m0 : ∀ t ∈ m0, Blk t := fun t ht => by
  rcases List.mem_cons.mp ht with e | e
  · rw [e]
    exact ⟨fun c hc => (show ∀ c ∈ ([97, 98] : List Nat), c ∈ Lt by decide) c hc, by decide, by decide, by decide, by decide, by decide, by decide⟩
  · rw [List.mem_singleton.mp e]
    exact ⟨lw1 (by decide), by decide, by decide, by decide, by decide, by decide, by decide⟩
theorem blk_y0 : ∀ t ∈ y0, Blk t := fun t ht => by
  rcases List.mem_cons.mp ht with e | e
  · rw [e]
    exact ⟨lw1 (by decide), by decide, by decide, by decide, by decide, by decide, by decide⟩
  · rw [List.mem_singleton.mp e]
    exact ⟨fun c hc => (show ∀ c ∈ ([98, 97] : List Nat), c ∈ Lt by decide) c hc, by decide, by decide, by decide, by decide, by decide, by decide⟩
theorem ok_st1 : HsOk st1 := HsOk.cons (hok2 rfl (by decide) (by decide)) (HsOk.cons (hok2 rfl (by decide) (by decide)) (HsOk.cons (hok2 rfl (by decide) (by decide)) (HsOk.cons (hok2 rfl (by decide) (by decide)) (HsOk.cons (hok3 rfl (by decide) (by decide) (by decide) (by decide)) HsOk.nil))))
theorem ok_st2 : HsOk st2 := HsOk.cons (hok2 rfl (by decide) (by decide)) (HsOk.cons (hok2 rfl (by decide) (by decide)) (HsOk.cons (hok3 rfl (by decide) (by decide) (by decide) (by decide)) (HsOk.cons (hok2 rfl (by decide) (by decide)) (HsOk.cons (hok2 rfl (by decide) (by decide)) (HsOk.cons (hok2 rfl (by decide) (by decide)) HsOk.nil)))))
theorem ok_st3 : HsOk st3 := HsOk.cons (hok3 rfl (by decide) (by decide) (by decide) (by decide)) (HsOk.cons (hok2 rfl (by decide) (by decide)) (HsOk.cons (hok2 rfl (by decide) (by decide)) (HsOk.cons (hok2 rfl (by decide) (by decide)) (HsOk.cons (hok2 rfl (by decide) (by decide)) HsOk.nil))))
theorem askC {m y : Row} {s : List HS} (hm : ∀ t ∈ m, Blk t) (hy : ∀ t ∈ y, Blk t) (m1 : m.length ≤ 12) (y1 : y.length ≤ 12) (hs : HsOk s) (hl : s.length ≤ 6) : Ask m y (hsD s) := by
  have h1 : (hsD s).length = s.length := List.length_map _
  refine askR hm hy m1 y1 (fun d hd => ?_) (by omega) (szB _ _ 6 6 (by omega) (Nat.le_trans (nsp_le _) (by omega)) (by decide))
  obtain ⟨h, hh, rfl⟩ := List.mem_map.mp hd
  exact stok_h (hs h hh) (by decide)
section
variable {P : Program} {w w' : World} {K K' : PySem.W.Frag} {mg : Str → Option Value} {base : Heap} {r : Res} {ds : Sl} {ta : TA}
theorem ev_callBag {α : Type} {ar : α → List Da} {pre : α → Prop} {t0 : TA} (a : α) (ha : EvA K none t0 ds (IsA (ar a))) (hp : pre a) : Ev K none (tCall (sp_law_right K) [] E0 (tCons (tCall (spNew K ar pre) [] E0 t0) tNil)) ds (Is (.d (.bool true))) := fun F σ H o f s Q q => by
  have key : t0 σ H (fun vs H1 => spNew K ar pre (vs ++ []) H1 (fun v H2 => sp_law_right K [v] H2 Q E0) E0) := by
    refine ha F σ H o f s _ fun vs H1 ws pw s1 rx => ?_
    subst pw
    rw [List.append_nil]
    refine ⟨a, F, s1.fok f, rx, hp, fun b H2 s' d s2 nb hb h1 h2 h3 => ?_⟩
    have nF : b ∉ F := fun z => (s1.fok f b z).1 nb
    have on2 : On (some b) H2 := fun c hc => by
      cases hc
      exact ⟨s', d, 0, hb, h1, h2, h3⟩
    have f2 : FOk F (some b) H2 := fun x hx => ⟨((s1.trans s2).fok f x hx).1, fun z => nF (by rw [← List.mem_singleton.mp z]; exact hx)⟩
    refine ⟨(), F, some b, on2, f2, .cons rfl .nil, ⟨rfl, trivial⟩, fun v H3 w pw s3 rw' => ?_⟩
    have st : Stp none H H3 := by
      refine ⟨on_none, fun x u hx hn => ?_, fun x hx => s1.dom x (s2.dom x (s3.dom x hx))⟩
      have e1 := s1.keep x u hx hn
      have ne : x ≠ b := fun e => by rw [e, nb] at e1; cases e1
      exact s3.keep x u (s2.keep x u e1 hn) fun z => ne (List.mem_singleton.mp z)
    have pw' : w = .d (.bool true) := pw
    subst pw'
    cases rw'
    exact q _ H3 _ rfl st (Rp.bl true)
  exact key
theorem ev_lit {z : Str} {l : Wd} (h : z = S l) : Ev K r (tC (.str z)) ds (Is (.d (.str (S l)))) := by subst h; exact ev_str
theorem S_ab : Str.ofString "ab" = S [97, 98] := by decide +kernel
theorem S_ba : Str.ofString "ba" = S [98, 97] := by decide +kernel
theorem b6 : (PyData.list [.bool true, .bool false, .bool false, .bool true, .bool false, .bool true]).showable = true ∧ (PyData.list [.bool true, .bool false, .bool false, .bool true, .bool false, .bool true]).hasDict = false ∧ (PyData.list [.bool true, .bool false, .bool false, .bool true, .bool false, .bool true]).depth ≤ 60 ∧ (PyData.list [.bool true, .bool false, .bool false, .bool true, .bool false, .bool true]).shown.length ≤ sizeLine :=
  ⟨by decide +kernel, by decide +kernel, by decide +kernel, by decide +kernel⟩
theorem ev_same {a b : Row} {ta tb : TE} (h1 : Ev K r ta ds (Is (.d (.tuple (tsD a))))) (h2 : Ev K r tb ds (Is (.d (.tuple (tsD b))))) : Ev K r (tTup (tCons (tC (.str (Str.ofString "same"))) (tCons ta (tCons tb tNil)))) ds (Is (.d (sameD a b))) := ev_tup (xs := [.str (Str.ofString "same"), .tuple (tsD a), .tuple (tsD b)]) (ea_cons ev_str (ea_cons h1 (ea_one h2))) (by simp)
def sp_law (K : PySem.W.Frag) : Sp := spG K (fun (ns : List Int) _ => [.s (ns.map V.int)]) (fun ns r => r = none ∧ ns.length ≤ 1000) fun _ => Is (.d (.bool true))
-- slots: 0=_law_script 1=_law_mine 2=_law_yours 3=_law_steps 4=_law_told_here 5=_law_spot
theorem sc_law : FnScope ["_law_script", "_law_mine", "_law_yours", "_law_steps", "_law_told_here", "_law_spot"] ["_law_script"] (defScope s_law) := C8.fnScope_by (by decide +kernel)
theorem c_law (T : Tx K mg w) : CalG P w K mg base 12 "law" ["_law_script"] (sp_law K) := by
  refine calGG T.e_law T.g_law sc_law (fun _ _ _ _ _ _ us hl => match us, hl with | [_], _ => rfl) (fun _ _ => rfl) fun f cdv A outer s H E hG hr => ?_
  refine ⟨_, (pss_cons (ps_asg (pe_tup (pa_cons (pe_tup (pa_cons (pe_tup (pa_cons pe_str (pa_cons pe_int (pa_cons pe_int pa_nil)))) (pa_cons (pe_tup (pa_cons pe_str (pa_cons pe_int (pa_cons pe_int pa_nil)))) pa_nil))) (pa_cons (pe_tup (pa_cons (pe_tup (pa_cons pe_str (pa_cons pe_int (pa_cons pe_int pa_nil)))) (pa_cons (pe_tup (pa_cons pe_str (pa_cons pe_int (pa_cons pe_int pa_nil)))) pa_nil))) pa_nil))) (pg_tup rfl (pgs_cons (pg_name (i := 1) sc_law.nd rfl (Or.inl rfl)) (pgs_cons (pg_name (i := 2) sc_law.nd rfl (Or.inl rfl)) pgs_nil))))
    (pss_cons (ps_set (i := 3) sc_law.nd rfl (Or.inl rfl) (pe_tup (pa_cons (pe_tup (pa_cons pe_str (pa_cons pe_int pa_nil))) (pa_cons (pe_tup (pa_cons pe_str (pa_cons pe_int pa_nil))) (pa_cons (pe_tup (pa_cons pe_str (pa_cons pe_int pa_nil))) (pa_cons (pe_tup (pa_cons pe_str (pa_cons pe_int pa_nil))) (pa_cons (pe_tup (pa_cons pe_str (pa_cons pe_int (pa_cons pe_int pa_nil)))) pa_nil)))))))
    (pss_cons (ps_set (i := 4) sc_law.nd rfl (Or.inl rfl) (pe_lst (pa_cons (pe_c (c_accepts T) hr (by decide) (by rfl) (pa_cons (pe_tup (pa_cons pe_str (pa_cons (pe_tup pa_nil) (pa_cons (pe_tup pa_nil) pa_nil)))) (pa_cons (pe_tup pa_nil) pa_nil))) (pa_cons (pe_c (c_accepts T) hr (by decide) (by rfl) (pa_cons (pe_tup (pa_cons pe_str (pa_cons (pv 1) (pa_cons (pv 2) pa_nil)))) (pa_cons (pv 3) pa_nil))) (pa_cons (pe_c (c_accepts T) hr (by decide) (by rfl) (pa_cons (pe_tup (pa_cons pe_str (pa_cons (pv 1) (pa_cons (pv 1) pa_nil)))) (pa_cons (pe_tup pa_nil) pa_nil))) pa_nil)))))
    (pss_cons (ps_set (i := 3) sc_law.nd rfl (Or.inl rfl) (pe_tup (pa_cons (pe_tup (pa_cons pe_str (pa_cons pe_int pa_nil))) (pa_cons (pe_tup (pa_cons pe_str (pa_cons pe_int pa_nil))) (pa_cons (pe_tup (pa_cons pe_str (pa_cons pe_int (pa_cons pe_int pa_nil)))) (pa_cons (pe_tup (pa_cons pe_str (pa_cons pe_int pa_nil))) (pa_cons (pe_tup (pa_cons pe_str (pa_cons pe_int pa_nil))) (pa_cons (pe_tup (pa_cons pe_str (pa_cons pe_int pa_nil))) pa_nil))))))))
    (pss_cons (ps_set (i := 4) sc_law.nd rfl (Or.inl rfl) (pe_op op_cat (pv 4) (pe_lst (pa_cons (pe_c (c_accepts T) hr (by decide) (by rfl) (pa_cons (pe_tup (pa_cons pe_str (pa_cons (pv 1) (pa_cons (pv 1) pa_nil)))) (pa_cons (pv 3) pa_nil))) (pa_cons (pe_c (c_accepts T) hr (by decide) (by rfl) (pa_cons (pe_tup (pa_cons pe_str (pa_cons (pv 1) (pa_cons (pv 2) pa_nil)))) (pa_cons (pv 3) pa_nil))) pa_nil)))))
    (pss_cons (ps_set (i := 3) sc_law.nd rfl (Or.inl rfl) (pe_tup (pa_cons (pe_tup (pa_cons pe_str (pa_cons pe_int (pa_cons pe_int pa_nil)))) (pa_cons (pe_tup (pa_cons pe_str (pa_cons pe_int pa_nil))) (pa_cons (pe_tup (pa_cons pe_str (pa_cons pe_int pa_nil))) (pa_cons (pe_tup (pa_cons pe_str (pa_cons pe_int pa_nil))) (pa_cons (pe_tup (pa_cons pe_str (pa_cons pe_int pa_nil))) pa_nil)))))))
    (pss_cons (ps_if (pt_cmpR op_ne (pe_callB (call_reprD hG hr.units) (by rfl) T.f_repr (by decide +kernel) (pa_cons (pe_op op_cat (pv 4) (pe_lst (pa_cons (pe_c (c_accepts T) hr (by decide) (by rfl) (pa_cons (pe_tup (pa_cons pe_str (pa_cons (pv 1) (pa_cons (pv 2) pa_nil)))) (pa_cons (pv 3) pa_nil))) pa_nil))) pa_nil)) (pe_callB (call_reprD hG hr.units) (by rfl) T.f_repr (by decide +kernel) (pa_cons (pe_lst (pa_cons pe_bl (pa_cons pe_bl (pa_cons pe_bl (pa_cons pe_bl (pa_cons pe_bl (pa_cons pe_bl pa_nil))))))) pa_nil)) (nomark _)) (pss_cons (ps_ret pe_bl)
    pss_nil) pss_nil)
    (pss_cons (ps_ret (pe_callB (cr_all rfl) (by rfl) T.f_all (by decide +kernel) (pa_cons (pe_lc (te := (tCall (sp_law_right K) [] E0 (tCons (tCall (sp_law_bag K) [] E0 (tCons (tVar 0) (tCons (tVar 5) tNil))) tNil))) (own := [("_law_spot", 5)]) (g := (gName 5)) (tt := tYes) rfl sc_law.nd (pi_range1 (by rfl) T.f_range (pa_cons (pe_callB (call_max2 rfl) (by rfl) T.f_max (by decide +kernel) (pa_cons pe_int (pa_cons (pe_callB (call_min2 rfl) (by rfl) T.f_min (by decide +kernel) (pa_cons (pe_callB call_len_seq (by rfl) T.f_len PySem.boot_len (pa_cons (pv 0) pa_nil)) (pa_cons pe_int pa_nil))) pa_nil))) pa_nil)) (blkOk_by (own := [("_law_spot", 5)]) (N := ["_law_script", "_law_mine", "_law_yours", "_law_steps", "_law_told_here", "_law_spot"]) (sc := defScope s_law) (by decide +kernel)) (fun _ _ _ _ _ => (pg_name (i := 5) sc_law.nd rfl (Or.inl rfl))) (fun _ _ _ _ _ => pts_nil) (fun _ _ _ _ _ => (pe_cG (c_law_right T) hG hr (by decide) (by rfl) (pa_cons (pe_c (c_law_bag T) hr (by decide) (by rfl) (pa_cons (pv 0) (pa_cons (pv 5) pa_nil))) pa_nil)))) pa_nil)))
    pss_nil)))))))), ?_⟩
  intro a r F0 H0 D hp R
  dsimp only [nox_K]
  obtain ⟨rfl, hl⟩ := hp
  have nl : EvA K none tNil [] (IsA []) := ea_nil
  apply go_unp (P := Is (.d (.tuple [.tuple (tsD m0), .tuple (tsD y0)]))) (vs := [1, 2])
  · exact ev_tup (xs := [.tuple (tsD m0), .tuple (tsD y0)]) (ea_cons (ev_rT2 (ea_cons (ev_tD (ea_cons (ev_lit S_ab) (ea_cons ev_int (ea_one ev_int)))) (ea_one (ev_tD (ea_cons (ev_lit S_a) (ea_cons ev_int (ea_one ev_int))))))) (ea_one (ev_rT2 (ea_cons (ev_tD (ea_cons (ev_lit S_a) (ea_cons ev_int (ea_one ev_int)))) (ea_one (ev_tD (ea_cons (ev_lit S_ba) (ea_cons ev_int (ea_one ev_int))))))))) (by simp)
  intro w e
  subst e
  refine ⟨_, eg_tup (xs := [.tuple (tsD m0), .tuple (tsD y0)]) (egs_cons (eg_name (by decide)) (egs_cons (eg_name (by decide)) egs_nil)) rfl, ?_⟩
  apply go_set (w := .d (.tuple (hsD st1))) (ev_tup (xs := hsD st1) (ea_cons (ev_hD2 (k := .turn) (ea_cons ev_str (ea_one ev_int))) (ea_cons (ev_hD2 (k := .turn) (ea_cons ev_str (ea_one ev_int))) (ea_cons (ev_hD2 (k := .turn) (ea_cons ev_str (ea_one ev_int))) (ea_cons (ev_hD2 (k := .turn) (ea_cons ev_str (ea_one ev_int))) (ea_one (ev_hD3 (k := .back) (ea_cons ev_str (ea_cons ev_int (ea_one ev_int))))))))) (by decide))
  have nil0 : ∀ t ∈ ([] : Row), Blk t := fun t ht => nomatch ht
  have e0 : ∀ ds : Sl, Ev K none (tTup tNil) ds (Is (.d (.tuple (hsD [])))) := fun ds => ev_tup (xs := []) ea_nil (by simp)
  apply go_set (w := .d (.list [.bool true, .bool false, .bool false])) (ev_lst (xs := [.bool true, .bool false, .bool false]) (ea_cons (ev_is (ec_accepts (a := []) (b := []) (l := hsD []) (ea_cons (ev_same ev_rT0 ev_rT0) (ea_one (e0 _))) (askC nil0 nil0 (by decide) (by decide) HsOk.nil (by decide))) (by rw [ansA])) (ea_cons (ev_is (ec_accepts (a := m0) (b := y0) (l := hsD st1) (ea_cons (ev_same (ev_var rfl) (ev_var rfl)) (ea_one (ev_var rfl))) (askC blk_m0 blk_y0 (by decide) (by decide) ok_st1 (by decide))) (by rw [ansB])) (ea_one (ev_is (ec_accepts (a := m0) (b := m0) (l := hsD []) (ea_cons (ev_same (ev_var rfl) (ev_var rfl)) (ea_one (e0 _))) (askC blk_m0 blk_m0 (by decide) (by decide) HsOk.nil (by decide))) (by rw [ansC]))))) (by simp))
  apply go_set (w := .d (.tuple (hsD st2))) (ev_tup (xs := hsD st2) (ea_cons (ev_hD2 (k := .turn) (ea_cons ev_str (ea_one ev_int))) (ea_cons (ev_hD2 (k := .glue) (ea_cons ev_str (ea_one ev_int))) (ea_cons (ev_hD3 (k := .undo) (ea_cons ev_str (ea_cons ev_int (ea_one ev_int)))) (ea_cons (ev_hD2 (k := .out) (ea_cons ev_str (ea_one ev_int))) (ea_cons (ev_hD2 (k := .join) (ea_cons ev_str (ea_one ev_int))) (ea_one (ev_hD2 (k := .out) (ea_cons ev_str (ea_one ev_int))))))))) (by decide))
  apply go_set (w := .d (.list [.bool true, .bool false, .bool false, .bool true, .bool false])) (ev_op (x := .d (.list [.bool true, .bool false, .bool false])) (y := .d (.list [.bool true, .bool false])) (ev_var rfl) (ev_lst (xs := [.bool true, .bool false]) (ea_cons (ev_is (ec_accepts (a := m0) (b := m0) (l := hsD st2) (ea_cons (ev_same (ev_var rfl) (ev_var rfl)) (ea_one (ev_var rfl))) (askC blk_m0 blk_m0 (by decide) (by decide) ok_st2 (by decide))) (by rw [ansD])) (ea_one (ev_is (ec_accepts (a := m0) (b := y0) (l := hsD st2) (ea_cons (ev_same (ev_var rfl) (ev_var rfl)) (ea_one (ev_var rfl))) (askC blk_m0 blk_y0 (by decide) (by decide) ok_st2 (by decide))) (by rw [ansE])))) (by simp)) (rv_cat (by simp)))
  apply go_set (w := .d (.tuple (hsD st3))) (ev_tup (xs := hsD st3) (ea_cons (ev_hD3 (k := .back) (ea_cons ev_str (ea_cons ev_int (ea_one ev_int)))) (ea_cons (ev_hD2 (k := .join) (ea_cons ev_str (ea_one ev_int))) (ea_cons (ev_hD2 (k := .out) (ea_cons ev_str (ea_one ev_int))) (ea_cons (ev_hD2 (k := .join) (ea_cons ev_str (ea_one ev_int))) (ea_one (ev_hD2 (k := .out) (ea_cons ev_str (ea_one ev_int)))))))) (by decide))
  refine go_ifF (et_is (et_test (ev_op (x := .d (.str (PyData.list [.bool true, .bool false, .bool false, .bool true, .bool false, .bool true]).shown)) (y := .d (.str (PyData.list [.bool true, .bool false, .bool false, .bool true, .bool false, .bool true]).shown)) (ev_cb (ea_one (ev_op (x := .d (.list [.bool true, .bool false, .bool false, .bool true, .bool false])) (y := .d (.list [.bool true])) (ev_var rfl) (ev_lst (xs := [.bool true]) (ea_one (ev_is (ec_accepts (a := m0) (b := y0) (l := hsD st3) (ea_cons (ev_same (ev_var rfl) (ev_var rfl)) (ea_one (ev_var rfl))) (askC blk_m0 blk_y0 (by decide) (by decide) ok_st3 (by decide))) (by rw [ansF]))) (by simp)) (rv_cat (by simp)))) (rc_repr b6.1 b6.2.1 b6.2.2.1 b6.2.2.2)) (ev_cb (ea_one (ev_lst (xs := [.bool true, .bool false, .bool false, .bool true, .bool false, .bool true]) (ea_cons ev_bl (ea_cons ev_bl (ea_cons ev_bl (ea_cons ev_bl (ea_cons ev_bl (ea_one ev_bl)))))) (by simp))) (rc_repr b6.1 b6.2.1 b6.2.2.1 b6.2.2.2)) rv_neS)) (by rw [beq_self_eq_true]; rfl)) (go_skip ?_)
  have hlen : (a.map V.int).length = a.length := List.length_map _
  obtain ⟨n0, hn0, hn1⟩ : ∃ n0 : Int, n0 = (if (if (4 : Int) < ((a.map V.int).length : Nat) then (4 : Int) else ((a.map V.int).length : Nat)) > 2 then (if (4 : Int) < ((a.map V.int).length : Nat) then (4 : Int) else ((a.map V.int).length : Nat)) else 2) ∧ 2 ≤ n0 ∧ n0 ≤ 4 := by
    refine ⟨_, rfl, ?_⟩
    generalize (((a.map V.int).length : Nat) : Int) = n
    by_cases h : (4 : Int) < n
    · simp only [if_pos h]
      decide
    · simp only [if_neg h]
      split <;> omega
  refine go_retE R rfl (ev_cb (ea_one (ev_lcmap (gd := fun k => PyData.int (k : Nat)) (fd := fun _ => .bool true) (List.range n0.toNat) ?_ (by rw [List.length_range]; omega) (fun c _ => eg_name (by decide)) fun c hc => ?_)) rc_allM) ?_
  · show EvI _ _ _ _ (rangeP n0)
    refine ei_range (ea_one (ev_is (ev_cb (ea_cons ev_int (ea_one (ev_cb (ea_cons (ev_cb (ea_one (ev_var (i := 0) rfl)) rc_lenSc) (ea_one ev_int)) rc_min))) rc_max) (by rw [hn0]))) (by omega) (by omega)
  · have hc' := List.mem_range.mp hc
    exact ev_callBag (a, c) (ea_cons (ev_var rfl) (ea_one (ev_var rfl))) ⟨hl, by show c ≤ 1000; omega⟩
  · have : ((List.range n0.toNat).all fun _ => true) = true := List.all_eq_true.mpr fun _ _ => rfl
    rw [this]
end
end Kn

set_option Elab.async false
set_option linter.all false
set_option maxRecDepth 100000
set_option maxHeartbeats 4000000
/-! The law's call, for a def that is called where no repr is under way (law_call and walk_ofE turned to FnOkG). -/
namespace Kn
open PySem PySem.Spec PyProof.Rows L2
section
variable {P : Program} {w : World} {K : PySem.W.Frag} {mg mb : Str → Option Value} {k : Nat} {fa a : Addr} {fd : FuncData} {x : Str} {sp : Sp} {s₁ : Shared} {vs : List Value} {ns : List Int}
/-- what the call leaves -/
abbrev LeftOk (s₁ : Shared) : Result → Shared → Prop := fun r s' => r = .ok (.ret (.bool true)) ∧ OldK s₁.heap s'.heap ∧ s'.os = s₁.os ∧ AllBare s'.gens
/-- from a heap of things that tracks the script at most -/
theorem call_coreG (KX : K.In s₁.heap) (hns : s₁.heap.Ns mainGlobals mg) (hb : s₁.heap.Ns builtinsNs mb) (hbb : ∀ x : Str, x ≠ "__name__" → mb x = bootBuiltins x) (hlim : s₁.heap.NoLimit) (hg : s₁.gens = #[])
    (ha : s₁.heap.get? a = some { cls := .type "list", data := .seq vs.toArray }) (hr : Room k callerA)
    (F : ∀ base : Heap, K.In base → base.Ns mainGlobals mg → FnOkG P w K mg base k fa fd [x] sp) (hbind : ∀ (s : Shared) (u : Value), BindsTo s fd ⟨[u], []⟩ [(x, u)])
    (H : Hp) (hO : Only H) (hsp : sp [.ref a] H (fun v _ => v = .bl true) E0) (hok : L2.HOk P w H s₁.heap) (hA : ∀ b, H b ≠ none → b = a) (hK : H a ≠ none → K.lookup a = none) :
    codeAny (model P w) callerA (.call (.ref fa) ⟨[.ref a], []⟩) (LeftOk s₁) s₁ := by
  have at_a : ∀ {b : Addr} {u : HO}, H b = some u → b = a := fun {b u} q => hA b (by rw [q]; exact fun z => nomatch z)
  have dictN : ∀ {b : Addr} {o : Obj} {es : Array DictEntry} {ep : Nat}, s₁.heap.get? b = some o → o.data = .dict es ep → H b = none := fun {b o es ep} e d => by
    cases q : H b with
    | none => rfl
    | some u =>
      obtain rfl := at_a q
      rw [ha] at e
      cases e
      cases d
  have nsK : ∀ {b : Addr} {m : Str → Option Value}, s₁.heap.Ns b m → (hidT s₁.heap H).Ns b m := fun {b m} ⟨o, es, ep, e, d, r⟩ => ⟨o, es, ep, hidT_get e (dictN e d), d, r⟩
  have hKb : K.In (hidT s₁.heap H) := fun b o e => hidT_get (KX b o e) (by
    cases q : H b with
    | none => rfl
    | some u =>
      obtain rfl := at_a q
      rw [hK (by rw [q]; exact fun z => nomatch z)] at e
      cases e)
  have hM : Mod K mg (hidT s₁.heap H) := ⟨hKb, nsK hns, ⟨mb, nsK hb, hbb⟩, let ⟨mc, h1, h2⟩ := hlim; ⟨mc, nsK h1, h2⟩⟩
  have e0 : Env0 P w K mg (hidT s₁.heap H) callerA [] s₁ H := ⟨rfl, hM, fun b o e => of_hidT e, Nat.le_of_eq (hidT_size _ _), trivial, fun b hb => absurd (show b ∈ ([] : List Addr) from hb) (by simp), hok, .of_eq hg⟩
  refine codeAny_mono ((F _ hKb (nsK hns)).run callerA [] s₁ H ⟨[.ref a], []⟩ [.ref a] [.ref a] _ E0 rfl hr e0 (hbind s₁ (.ref a)) (.cons rfl .nil) hsp) fun r s' h => ?_
  cases r with
  | error e => exact False.elim h
  | ok fl =>
    cases fl with
    | next => exact False.elim h
    | brk => exact False.elim h
    | cont => exact False.elim h
    | ret u =>
      obtain ⟨v, H', os, bare, un, hok', r', q⟩ := h
      have q' : v = .bl true := q
      subst q'
      obtain rfl : u = Value.bool true := r'
      refine ⟨rfl, OldK.of_keep fun b o e => ?_, os, bare⟩
      cases q : H b with
      | none => exact un.keep b o e q (by intro z; exact absurd (show b ∈ ([] : List Addr) from z) (by simp)) (by simp)
      | some u =>
        rcases hO b with z | ⟨ob, xs, z⟩
        · rw [q] at z
          cases z
        · have z2 := un.frzs b ob _ z
          obtain ⟨e1, _⟩ := hok b _ z
          obtain ⟨e2, _⟩ := hok' b _ z2
          rw [e] at e1
          cases e1
          exact e2
theorem law_callG (KX : K.In s₁.heap) (hns : s₁.heap.Ns mainGlobals mg) (hb : s₁.heap.Ns builtinsNs mb) (hbb : ∀ x : Str, x ≠ "__name__" → mb x = bootBuiltins x) (hlim : s₁.heap.NoLimit) (hg : s₁.gens = #[])
    (ha : s₁.heap.get? a = some { cls := .type "list", data := .seq vs.toArray }) (hi : IntsAre vs ns) (hl : ns.length ≤ sizeLine) (hr : Room k callerA)
    (F : ∀ base : Heap, K.In base → base.Ns mainGlobals mg → FnOkG P w K mg base k fa fd [x] sp) (hbind : ∀ (s : Shared) (u : Value), BindsTo s fd ⟨[u], []⟩ [(x, u)])
    (hsp : ∀ H : Hp, Only H → SqL K H a (ns.map V.int) → sp [.ref a] H (fun v _ => v = .bl true) E0) :
    codeAny (model P w) callerA (.call (.ref fa) ⟨[.ref a], []⟩) (LeftOk s₁) s₁ := by
  have rv := vals_ints hi
  have lenV := hi.length
  cases hk : K.lookup a with
  | some o =>
    have e := KX a o hk
    rw [ha] at e
    cases e
    have o1 : Only fun _ => none := fun _ => .inl rfl
    have s1 : SqL K (fun _ => none) a (ns.map V.int) := .inr ⟨_, vs.toArray, _, hk, rfl, rfl, rfl, by rw [List.size_toArray, lenV]; exact hl, by simpa using rv⟩
    exact call_coreG KX hns hb hbb hlim hg ha hr F hbind _ o1 (hsp _ o1 s1) (fun b u z => (nomatch (show (none : Option HO) = some u from z))) (fun b z => absurd rfl z) fun z => absurd rfl z
  | none =>
    let H0 : Hp := fun b => if b = a then some (.frz { cls := .type "list", data := .seq vs.toArray } (.lst (ns.map V.int))) else none
    have h1 : H0 a = some (.frz { cls := .type "list", data := .seq vs.toArray } (.lst (ns.map V.int))) := if_pos rfl
    have h2 : ∀ {b}, b ≠ a → H0 b = none := fun n => if_neg n
    have o1 : Only H0 := fun b => by
      by_cases e : b = a
      · subst e
        exact .inr ⟨_, _, h1⟩
      · exact .inl (h2 e)
    refine call_coreG KX hns hb hbb hlim hg ha hr F hbind H0 o1 (hsp _ o1 (.inl (.inr ⟨_, h1⟩))) (fun b u z => ?_) (fun b z => ?_) fun _ => hk
    · by_cases e : b = a
      · subst e
        rw [h1] at z
        cases z
        exact ⟨ha, by rw [List.length_map]; exact hl, vs, _, rv, ha⟩
      · rw [h2 e] at z
        cases z
    · by_cases e : b = a
      · exact e
      · exact absurd (h2 e) z
end
theorem walk_ofG {l : PySem.W.OpenLaw} {n k : Nat} {q : Program} {loose : List Str} {XP : (Str → Option Value) → Heap → Prop} {YP : World → Heap → Prop} {d : DefRec} {x : Str}
    (hn : l.most = some n) (hn2 : n ≤ sizeLine) (hdf : d.params.defaults = []) (hr : Room k callerA)
    (F : ∀ (w : World) (mg : Str → Option Value) (fa : Addr) (h : Heap), YP w h → h.Ns mainGlobals mg → mg d.name = some (.ref fa) →
      ∃ (K : PySem.W.Frag) (fd : FuncData) (sp : Sp), K.In h ∧ (∀ (s : Shared) (u : Value), BindsTo s fd ⟨[u], []⟩ [(x, u)]) ∧
        (∀ (H : Hp) (a : Addr) (ns : List Int), ns.length ≤ n → Only H → SqL K H a (ns.map V.int) → sp [.ref a] H (fun v _ => v = .bl true) E0) ∧
        ∀ base : Heap, K.In base → base.Ns mainGlobals mg → FnOkG l.prog w K mg base k fa fd [x] sp) :
    PySem.W.WalkO q loose XP YP l.row.toRowW d [] (fun f vs => PySem.call f vs) := by
  refine Att.attach_call hn hdf fun w s₀ s₁ mg mb fa o pm cd doc a vs ns G Y ho hd hcd hmg hobj hints hlen hg => ?_
  obtain ⟨K, fd, sp, KX, hb, hsp, hF⟩ := F w mg fa _ Y G.T.g hmg
  exact law_callG KX G.T.g G.T.b G.T.builtins G.T.nolimit hg hobj hints (Nat.le_trans hlen hn2) hr hF hb fun H hO hS => hsp H a ns hlen hO hS
/-- the law's promise, as the head asks for it -/
theorem sp_law_head {K : PySem.W.Frag} {H : Hp} {a : Addr} {ns : List Int} (hl : ns.length ≤ 63) (hS : SqL K H a (ns.map V.int)) : sp_law K [.ref a] H (fun v _ => v = .bl true) E0 := by
  have e : hide (hid [] none) H = H := by
    funext b
    unfold hide
    rw [if_neg (fun z => nomatch z)]
  refine ⟨ns, [], none, on_none, fun b hb => (nomatch hb), .cons ⟨a, rfl, ?_⟩ .nil, ⟨rfl, by omega⟩, fun v H2 w pw s rx => ?_⟩
  · rw [e]
    exact hS
  · have pw' : w = .d (.bool true) := pw
    subst pw'
    cases rx
    rfl
end Kn

set_option Elab.async false
set_option linter.all false
set_option maxRecDepth 100000
set_option maxHeartbeats 4000000
/-! The law's def, over every base. -/
namespace Kn
open PySem PySem.Spec PyProof.Rows L2
local macro_rules | `(tactic| walk_at "sd") => `(tactic| first | trivial | assumption | walk_at "sz")
local macro_rules | `(tactic| walk_at "sz") => `(tactic| first | assumption | decide | omega | rfl | (simp only [List.length_append, List.length_map, List.length_cons, List.length_nil, List.length_reverse]; omega))
local macro_rules | `(tactic| walk_at "rv") => `(tactic| with_reducible first
  | exact rv_ix0 | exact rv_ix1 | exact rv_ix2 | exact rv_eqI | exact rv_neI | exact rv_eqE | exact rv_neE | exact rv_eqW | exact rv_neW | exact rv_eqS | exact rv_neS
  | exact rv_int0 | exact rv_bl0
  | exact rv_ixT0 | exact rv_ixT1
  | exact rv_ixRT (by assumption) | exact rv_ixRL (by assumption) | (apply rv_ixW; walk_at "sz"; assumption)
  | (refine rv_addW ?_; walk_at "sz")
  | (refine rv_catRT ?_; walk_at "sz") | (refine rv_catRL ?_; walk_at "sz")
  | (refine rv_intC ?_; assumption) | (apply rv_mulW; walk_at "sz"; walk_at "sz"; walk_at "sz")
  | exact rv_inW | exact rv_inSign | exact rv_isN | exact rv_notN | exact rv_notBl
  | exact rv_ixT (by with_unfolding_all rfl) | exact rv_ixL (by with_unfolding_all rfl)
  | exact rv_ixT (by assumption) | exact rv_ixL (by assumption)
  | (refine rv_catA ?_; walk_at "sz") | (refine rv_cat ?_; walk_at "sz"))
local macro_rules | `(tactic| walk_at "rs") => `(tactic| with_reducible first
  | exact rs_rT | exact rs_rL
  | (refine rs_w ?_ ?_; walk_at "sz"; (with_unfolding_all first | exact Nat.zero_le _ | exact HT.sIx_le _ _ (Nat.zero_le _) _ | assumption))
  | exact rs_tup | exact rs_list
  | (refine rs_str ?_; walk_at "sz"))
local macro_rules | `(tactic| walk_at "rc") => `(tactic| with_reducible first
  | exact rc_lenD3 | exact rc_lenRT | exact rc_lenRL | exact rc_lenT | exact rc_lenL | (refine rc_lenW ?_; walk_at "sz") | (refine rc_lenS ?_; walk_at "sz")
  | exact rc_isi (kit_int _) | exact rc_isi (kit_bool _) | exact rc_isi (kit_str _) | exact rc_isi (kit_tup _)
  | exact rc_max | exact rc_min | exact rc_int | exact rc_abs | exact rc_all | exact rc_tupL | exact rc_tupT | exact rc_list | exact rc_listT | (refine rc_listW ?_; walk_at "sz"))
local macro_rules | `(tactic| walk_at "rm") => `(tactic| first | (with_reducible apply rm_lowW; assumption; walk_at "sz") | (with_reducible apply rm_upW; assumption; walk_at "sz"))
local macro_rules | `(tactic| walk_at "ea") => `(tactic| first
  | with_reducible exact ea_nil
  | ((with_reducible apply ea_cons); walk_at "ev"; walk_at "ea"))
local macro_rules | `(tactic| walk_at "eo") => `(tactic| first
  | with_reducible exact eo_none
  | ((with_reducible apply eo_some); walk_at "ev"))
local macro_rules | `(tactic| walk_at "et") => `(tactic| first
  | ((with_reducible apply et_test); walk_at "ev")
  | ((with_reducible apply et_B); walk_at "ev")
  | ((with_reducible apply et_not); walk_at "et")
  | ((with_reducible apply et_and); walk_at "et"; intro _; walk_at "et")
  | ((with_reducible apply et_or); walk_at "et"; intro _; walk_at "et"))
local macro_rules | `(tactic| walk_at "ev") => `(tactic| first
  | with_reducible exact ev_int | with_reducible exact ev_str | with_reducible exact ev_bl | with_reducible exact ev_non | with_reducible exact ev_val
  | ((with_reducible apply ev_var); exact rfl)
  | ((with_reducible apply ev_op); walk_at "ev"; walk_at "ev"; walk_at "rv")
  | ((with_reducible apply ev_un); walk_at "ev"; exact ru_neg)
  | ((with_reducible apply ev_and); walk_at "ev"; intro _; walk_at "ev")
  | ((with_reducible apply ev_or); walk_at "ev"; intro _; walk_at "ev")
  | ((with_reducible apply ev_not); walk_at "ev")
  | ((with_reducible apply ev_sl); walk_at "ev"; walk_at "eo"; walk_at "eo"; walk_at "rs")
  | ((with_reducible apply ev_chain); walk_at "ev"; walk_at "ev"; walk_at "rv"; (intro _; walk_at "ev"); (intro _; walk_at "rv"))
  | walk_at "ec"
  | ((with_reducible apply ev_if); walk_at "et"; (intro _; walk_at "ev"); (intro _; walk_at "ev"))
  | ((with_reducible apply ev_m0); walk_at "ev"; walk_at "rm")
  | ((with_reducible apply ev_cb); walk_at "ea"; walk_at "rc")
  | ((with_reducible apply ev_tD); walk_at "ea")
  | with_reducible exact ev_rT0 | with_reducible exact ev_rL0
  | ((with_reducible apply ev_rT1); walk_at "ea") | ((with_reducible apply ev_rT2); walk_at "ea") | ((with_reducible apply ev_rT3); walk_at "ea")
  | ((with_reducible apply ev_rL1); walk_at "ea") | ((with_reducible apply ev_rL2); walk_at "ea") | ((with_reducible apply ev_rL3); walk_at "ea") | ((with_reducible apply ev_rL4); walk_at "ea")
  | ((with_reducible apply ev_revW); walk_at "ev"; walk_at "sz")
  | ((with_reducible apply ev_revL); walk_at "ev")
  | ((with_reducible apply ev_revT); walk_at "ev"))
local macro_rules | `(tactic| walk_at "ret") => `(tactic| (apply go_retE; assumption; exact rfl; walk_at "ev"))
local macro_rules | `(tactic| walk_at "if") => `(tactic| (apply go_if; walk_at "et"))
local macro_rules | `(tactic| walk_at "set") => `(tactic| (apply go_set; walk_at "ev"))
local macro_rules | `(tactic| walk_at "eg") => `(tactic| first | exact eg_name (by decide) | exact eg_tD (by decide) (by decide) (by decide))
theorem calGGK {P : Program} {w : World} {K : PySem.W.Frag} {mg : Str → Option Value} {x : Str} {st : Stmt} {N ps : List Str} {k : Nat} {α : Type} {ar : α → Res → List Da} {pre : α → Res → Prop} {post : α → Da → Prop} (F : ∃ fd, FunD K x x (defArgs st) (defBody st) (defScope st) [] [] (He.ga K x) fd) (S : FnScope N ps (defScope st)) (hlen : ∀ a r, (ar a r).length = ps.length)
    (hbody : ∀ (base : Heap) (f : Addr) (cdv : Value) (A : Around) (outer : List Env) (s : Shared) (H : Hp) (E : XK), A.guards = some [] → Room k (A.deeper (envOfC x (defScope st) s.heap.objs.size f cdv)) →
      ∃ t, PSs (cxOf CX0 P w K mg base N x (defScope st) f cdv A outer s H E).nox (defBody st) t ∧ ∀ (a : α) (r : Res) (F0 : List Addr) (H0 : Hp) (D : Ends), pre a r → Rt ⟨K, F0, r, H0, post a⟩ D → Go ⟨K, F0, r, H0, post a⟩ none (startD N.length (ar a r)) t D) :
    ∃ fd, FunD K x x (defArgs st) (defBody st) (defScope st) [] [] (He.ga K x) fd ∧ ∀ base : Heap, FnOkG P w K mg base (k + 1) (He.ga K x) fd ps (spG K ar pre post) := by
  obtain ⟨fd, F⟩ := F
  exact ⟨fd, F, fun base => okGG F S hlen (fun cdv A outer s H E hG hr => hbody base _ cdv A outer s H E hG hr)⟩
namespace K2
section
variable {P : Program} {w w' : World} {K K' : PySem.W.Frag} {mg : Str → Option Value} {r : Res} {ds : Sl} {ta : TA}
-- slots: 0=_law_script 1=_law_mine 2=_law_yours 3=_law_steps 4=_law_told_here 5=_law_spot
theorem sc_law : FnScope ["_law_script", "_law_mine", "_law_yours", "_law_steps", "_law_told_here", "_law_spot"] ["_law_script"] (defScope s_law) := C8.fnScope_by (by decide +kernel)
theorem k_law (T : Tx K mg w) : ∃ fd, FunD K "law" "law" (defArgs s_law) (defBody s_law) (defScope s_law) [] [] (He.ga K "law") fd ∧ ∀ base : Heap, FnOkG P w K mg base 12 (He.ga K "law") fd ["_law_script"] (sp_law K) := by
  refine calGGK T.e_law sc_law (fun _ _ => rfl) fun base f cdv A outer s H E hG hr => ?_
  refine ⟨_, (pss_cons (ps_asg (pe_tup (pa_cons (pe_tup (pa_cons (pe_tup (pa_cons pe_str (pa_cons pe_int (pa_cons pe_int pa_nil)))) (pa_cons (pe_tup (pa_cons pe_str (pa_cons pe_int (pa_cons pe_int pa_nil)))) pa_nil))) (pa_cons (pe_tup (pa_cons (pe_tup (pa_cons pe_str (pa_cons pe_int (pa_cons pe_int pa_nil)))) (pa_cons (pe_tup (pa_cons pe_str (pa_cons pe_int (pa_cons pe_int pa_nil)))) pa_nil))) pa_nil))) (pg_tup rfl (pgs_cons (pg_name (i := 1) sc_law.nd rfl (Or.inl rfl)) (pgs_cons (pg_name (i := 2) sc_law.nd rfl (Or.inl rfl)) pgs_nil))))
    (pss_cons (ps_set (i := 3) sc_law.nd rfl (Or.inl rfl) (pe_tup (pa_cons (pe_tup (pa_cons pe_str (pa_cons pe_int pa_nil))) (pa_cons (pe_tup (pa_cons pe_str (pa_cons pe_int pa_nil))) (pa_cons (pe_tup (pa_cons pe_str (pa_cons pe_int pa_nil))) (pa_cons (pe_tup (pa_cons pe_str (pa_cons pe_int pa_nil))) (pa_cons (pe_tup (pa_cons pe_str (pa_cons pe_int (pa_cons pe_int pa_nil)))) pa_nil)))))))
    (pss_cons (ps_set (i := 4) sc_law.nd rfl (Or.inl rfl) (pe_lst (pa_cons (pe_c (c_accepts T) hr (by decide) (by rfl) (pa_cons (pe_tup (pa_cons pe_str (pa_cons (pe_tup pa_nil) (pa_cons (pe_tup pa_nil) pa_nil)))) (pa_cons (pe_tup pa_nil) pa_nil))) (pa_cons (pe_c (c_accepts T) hr (by decide) (by rfl) (pa_cons (pe_tup (pa_cons pe_str (pa_cons (pv 1) (pa_cons (pv 2) pa_nil)))) (pa_cons (pv 3) pa_nil))) (pa_cons (pe_c (c_accepts T) hr (by decide) (by rfl) (pa_cons (pe_tup (pa_cons pe_str (pa_cons (pv 1) (pa_cons (pv 1) pa_nil)))) (pa_cons (pe_tup pa_nil) pa_nil))) pa_nil)))))
    (pss_cons (ps_set (i := 3) sc_law.nd rfl (Or.inl rfl) (pe_tup (pa_cons (pe_tup (pa_cons pe_str (pa_cons pe_int pa_nil))) (pa_cons (pe_tup (pa_cons pe_str (pa_cons pe_int pa_nil))) (pa_cons (pe_tup (pa_cons pe_str (pa_cons pe_int (pa_cons pe_int pa_nil)))) (pa_cons (pe_tup (pa_cons pe_str (pa_cons pe_int pa_nil))) (pa_cons (pe_tup (pa_cons pe_str (pa_cons pe_int pa_nil))) (pa_cons (pe_tup (pa_cons pe_str (pa_cons pe_int pa_nil))) pa_nil))))))))
    (pss_cons (ps_set (i := 4) sc_law.nd rfl (Or.inl rfl) (pe_op op_cat (pv 4) (pe_lst (pa_cons (pe_c (c_accepts T) hr (by decide) (by rfl) (pa_cons (pe_tup (pa_cons pe_str (pa_cons (pv 1) (pa_cons (pv 1) pa_nil)))) (pa_cons (pv 3) pa_nil))) (pa_cons (pe_c (c_accepts T) hr (by decide) (by rfl) (pa_cons (pe_tup (pa_cons pe_str (pa_cons (pv 1) (pa_cons (pv 2) pa_nil)))) (pa_cons (pv 3) pa_nil))) pa_nil)))))
    (pss_cons (ps_set (i := 3) sc_law.nd rfl (Or.inl rfl) (pe_tup (pa_cons (pe_tup (pa_cons pe_str (pa_cons pe_int (pa_cons pe_int pa_nil)))) (pa_cons (pe_tup (pa_cons pe_str (pa_cons pe_int pa_nil))) (pa_cons (pe_tup (pa_cons pe_str (pa_cons pe_int pa_nil))) (pa_cons (pe_tup (pa_cons pe_str (pa_cons pe_int pa_nil))) (pa_cons (pe_tup (pa_cons pe_str (pa_cons pe_int pa_nil))) pa_nil)))))))
    (pss_cons (ps_if (pt_cmpR op_ne (pe_callB (call_reprD hG hr.units) (by rfl) T.f_repr (by decide +kernel) (pa_cons (pe_op op_cat (pv 4) (pe_lst (pa_cons (pe_c (c_accepts T) hr (by decide) (by rfl) (pa_cons (pe_tup (pa_cons pe_str (pa_cons (pv 1) (pa_cons (pv 2) pa_nil)))) (pa_cons (pv 3) pa_nil))) pa_nil))) pa_nil)) (pe_callB (call_reprD hG hr.units) (by rfl) T.f_repr (by decide +kernel) (pa_cons (pe_lst (pa_cons pe_bl (pa_cons pe_bl (pa_cons pe_bl (pa_cons pe_bl (pa_cons pe_bl (pa_cons pe_bl pa_nil))))))) pa_nil)) (nomark _)) (pss_cons (ps_ret pe_bl)
    pss_nil) pss_nil)
    (pss_cons (ps_ret (pe_callB (cr_all rfl) (by rfl) T.f_all (by decide +kernel) (pa_cons (pe_lc (te := (tCall (sp_law_right K) [] E0 (tCons (tCall (sp_law_bag K) [] E0 (tCons (tVar 0) (tCons (tVar 5) tNil))) tNil))) (own := [("_law_spot", 5)]) (g := (gName 5)) (tt := tYes) rfl sc_law.nd (pi_range1 (by rfl) T.f_range (pa_cons (pe_callB (call_max2 rfl) (by rfl) T.f_max (by decide +kernel) (pa_cons pe_int (pa_cons (pe_callB (call_min2 rfl) (by rfl) T.f_min (by decide +kernel) (pa_cons (pe_callB call_len_seq (by rfl) T.f_len PySem.boot_len (pa_cons (pv 0) pa_nil)) (pa_cons pe_int pa_nil))) pa_nil))) pa_nil)) (blkOk_by (own := [("_law_spot", 5)]) (N := ["_law_script", "_law_mine", "_law_yours", "_law_steps", "_law_told_here", "_law_spot"]) (sc := defScope s_law) (by decide +kernel)) (fun _ _ _ _ _ => (pg_name (i := 5) sc_law.nd rfl (Or.inl rfl))) (fun _ _ _ _ _ => pts_nil) (fun _ _ _ _ _ => (pe_cG (c_law_right T) hG hr (by decide) (by rfl) (pa_cons (pe_c (c_law_bag T) hr (by decide) (by rfl) (pa_cons (pv 0) (pa_cons (pv 5) pa_nil))) pa_nil)))) pa_nil)))
    pss_nil)))))))), ?_⟩
  intro a r F0 H0 D hp R
  dsimp only [nox_K]
  obtain ⟨rfl, hl⟩ := hp
  have nl : EvA K none tNil [] (IsA []) := ea_nil
  apply go_unp (P := Is (.d (.tuple [.tuple (tsD m0), .tuple (tsD y0)]))) (vs := [1, 2])
  · exact ev_tup (xs := [.tuple (tsD m0), .tuple (tsD y0)]) (ea_cons (ev_rT2 (ea_cons (ev_tD (ea_cons (ev_lit S_ab) (ea_cons ev_int (ea_one ev_int)))) (ea_one (ev_tD (ea_cons (ev_lit S_a) (ea_cons ev_int (ea_one ev_int))))))) (ea_one (ev_rT2 (ea_cons (ev_tD (ea_cons (ev_lit S_a) (ea_cons ev_int (ea_one ev_int)))) (ea_one (ev_tD (ea_cons (ev_lit S_ba) (ea_cons ev_int (ea_one ev_int))))))))) (by simp)
  intro w e
  subst e
  refine ⟨_, eg_tup (xs := [.tuple (tsD m0), .tuple (tsD y0)]) (egs_cons (eg_name (by decide)) (egs_cons (eg_name (by decide)) egs_nil)) rfl, ?_⟩
  apply go_set (w := .d (.tuple (hsD st1))) (ev_tup (xs := hsD st1) (ea_cons (ev_hD2 (k := .turn) (ea_cons ev_str (ea_one ev_int))) (ea_cons (ev_hD2 (k := .turn) (ea_cons ev_str (ea_one ev_int))) (ea_cons (ev_hD2 (k := .turn) (ea_cons ev_str (ea_one ev_int))) (ea_cons (ev_hD2 (k := .turn) (ea_cons ev_str (ea_one ev_int))) (ea_one (ev_hD3 (k := .back) (ea_cons ev_str (ea_cons ev_int (ea_one ev_int))))))))) (by decide))
  have nil0 : ∀ t ∈ ([] : Row), Blk t := fun t ht => nomatch ht
  have e0 : ∀ ds : Sl, Ev K none (tTup tNil) ds (Is (.d (.tuple (hsD [])))) := fun ds => ev_tup (xs := []) ea_nil (by simp)
  apply go_set (w := .d (.list [.bool true, .bool false, .bool false])) (ev_lst (xs := [.bool true, .bool false, .bool false]) (ea_cons (ev_is (ec_accepts (a := []) (b := []) (l := hsD []) (ea_cons (ev_same ev_rT0 ev_rT0) (ea_one (e0 _))) (askC nil0 nil0 (by decide) (by decide) HsOk.nil (by decide))) (by rw [ansA])) (ea_cons (ev_is (ec_accepts (a := m0) (b := y0) (l := hsD st1) (ea_cons (ev_same (ev_var rfl) (ev_var rfl)) (ea_one (ev_var rfl))) (askC blk_m0 blk_y0 (by decide) (by decide) ok_st1 (by decide))) (by rw [ansB])) (ea_one (ev_is (ec_accepts (a := m0) (b := m0) (l := hsD []) (ea_cons (ev_same (ev_var rfl) (ev_var rfl)) (ea_one (e0 _))) (askC blk_m0 blk_m0 (by decide) (by decide) HsOk.nil (by decide))) (by rw [ansC]))))) (by simp))
  apply go_set (w := .d (.tuple (hsD st2))) (ev_tup (xs := hsD st2) (ea_cons (ev_hD2 (k := .turn) (ea_cons ev_str (ea_one ev_int))) (ea_cons (ev_hD2 (k := .glue) (ea_cons ev_str (ea_one ev_int))) (ea_cons (ev_hD3 (k := .undo) (ea_cons ev_str (ea_cons ev_int (ea_one ev_int)))) (ea_cons (ev_hD2 (k := .out) (ea_cons ev_str (ea_one ev_int))) (ea_cons (ev_hD2 (k := .join) (ea_cons ev_str (ea_one ev_int))) (ea_one (ev_hD2 (k := .out) (ea_cons ev_str (ea_one ev_int))))))))) (by decide))
  apply go_set (w := .d (.list [.bool true, .bool false, .bool false, .bool true, .bool false])) (ev_op (x := .d (.list [.bool true, .bool false, .bool false])) (y := .d (.list [.bool true, .bool false])) (ev_var rfl) (ev_lst (xs := [.bool true, .bool false]) (ea_cons (ev_is (ec_accepts (a := m0) (b := m0) (l := hsD st2) (ea_cons (ev_same (ev_var rfl) (ev_var rfl)) (ea_one (ev_var rfl))) (askC blk_m0 blk_m0 (by decide) (by decide) ok_st2 (by decide))) (by rw [ansD])) (ea_one (ev_is (ec_accepts (a := m0) (b := y0) (l := hsD st2) (ea_cons (ev_same (ev_var rfl) (ev_var rfl)) (ea_one (ev_var rfl))) (askC blk_m0 blk_y0 (by decide) (by decide) ok_st2 (by decide))) (by rw [ansE])))) (by simp)) (rv_cat (by simp)))
  apply go_set (w := .d (.tuple (hsD st3))) (ev_tup (xs := hsD st3) (ea_cons (ev_hD3 (k := .back) (ea_cons ev_str (ea_cons ev_int (ea_one ev_int)))) (ea_cons (ev_hD2 (k := .join) (ea_cons ev_str (ea_one ev_int))) (ea_cons (ev_hD2 (k := .out) (ea_cons ev_str (ea_one ev_int))) (ea_cons (ev_hD2 (k := .join) (ea_cons ev_str (ea_one ev_int))) (ea_one (ev_hD2 (k := .out) (ea_cons ev_str (ea_one ev_int)))))))) (by decide))
  refine go_ifF (et_is (et_test (ev_op (x := .d (.str (PyData.list [.bool true, .bool false, .bool false, .bool true, .bool false, .bool true]).shown)) (y := .d (.str (PyData.list [.bool true, .bool false, .bool false, .bool true, .bool false, .bool true]).shown)) (ev_cb (ea_one (ev_op (x := .d (.list [.bool true, .bool false, .bool false, .bool true, .bool false])) (y := .d (.list [.bool true])) (ev_var rfl) (ev_lst (xs := [.bool true]) (ea_one (ev_is (ec_accepts (a := m0) (b := y0) (l := hsD st3) (ea_cons (ev_same (ev_var rfl) (ev_var rfl)) (ea_one (ev_var rfl))) (askC blk_m0 blk_y0 (by decide) (by decide) ok_st3 (by decide))) (by rw [ansF]))) (by simp)) (rv_cat (by simp)))) (rc_repr b6.1 b6.2.1 b6.2.2.1 b6.2.2.2)) (ev_cb (ea_one (ev_lst (xs := [.bool true, .bool false, .bool false, .bool true, .bool false, .bool true]) (ea_cons ev_bl (ea_cons ev_bl (ea_cons ev_bl (ea_cons ev_bl (ea_cons ev_bl (ea_one ev_bl)))))) (by simp))) (rc_repr b6.1 b6.2.1 b6.2.2.1 b6.2.2.2)) rv_neS)) (by rw [beq_self_eq_true]; rfl)) (go_skip ?_)
  have hlen : (a.map V.int).length = a.length := List.length_map _
  obtain ⟨n0, hn0, hn1⟩ : ∃ n0 : Int, n0 = (if (if (4 : Int) < ((a.map V.int).length : Nat) then (4 : Int) else ((a.map V.int).length : Nat)) > 2 then (if (4 : Int) < ((a.map V.int).length : Nat) then (4 : Int) else ((a.map V.int).length : Nat)) else 2) ∧ 2 ≤ n0 ∧ n0 ≤ 4 := by
    refine ⟨_, rfl, ?_⟩
    generalize (((a.map V.int).length : Nat) : Int) = n
    by_cases h : (4 : Int) < n
    · simp only [if_pos h]
      decide
    · simp only [if_neg h]
      split <;> omega
  refine go_retE R rfl (ev_cb (ea_one (ev_lcmap (gd := fun k => PyData.int (k : Nat)) (fd := fun _ => .bool true) (List.range n0.toNat) ?_ (by rw [List.length_range]; omega) (fun c _ => eg_name (by decide)) fun c hc => ?_)) rc_allM) ?_
  · show EvI _ _ _ _ (rangeP n0)
    refine ei_range (ea_one (ev_is (ev_cb (ea_cons ev_int (ea_one (ev_cb (ea_cons (ev_cb (ea_one (ev_var (i := 0) rfl)) rc_lenSc) (ea_one ev_int)) rc_min))) rc_max) (by rw [hn0]))) (by omega) (by omega)
  · have hc' := List.mem_range.mp hc
    exact ev_callBag (a, c) (ea_cons (ev_var rfl) (ea_one (ev_var rfl))) ⟨hl, by show c ≤ 1000; omega⟩
  · have : ((List.range n0.toNat).all fun _ => true) = true := List.all_eq_true.mpr fun _ _ => rfl
    rw [this]
end
end K2
end Kn

set_option Elab.async false
set_option linter.all false
set_option maxRecDepth 100000
set_option maxHeartbeats 0
/-! The head: the run of the top, and the law. -/
namespace Kn
open PySem PySem.Spec PyProof.Rows L2
theorem law_at {P : Program} {w : World} {K : PySem.W.Frag} {h : Heap} {mg : Str → Option Value} {f : Addr} (X : K.In h) (G : h.Ns mainGlobals mg) (hfa : mg ("law" : Str) = some (.ref f)) (c : He.SaysT fa fn ts w K) (m : ex K = true) :
    ∃ fd : FuncData, (∀ (s : Shared) (v : Value), BindsTo s fd ⟨[v], []⟩ [("_law_script", v)]) ∧ ∀ base : Heap, K.In base → base.Ns mainGlobals mg → FnOkG P w K mg base 12 f fd ["_law_script"] (sp_law K) := by
  have T := tx_of X G c m
  obtain ⟨fd, F, ok⟩ := K2.k_law (P := P) (w := w) (mg := mg) T
  have e := hfa.symm.trans T.g_law
  cases e
  have b := FunD.bindsA (ps := ["_law_script"]) F fun _ _ _ _ _ _ us hl => match us, hl with | [_], _ => rfl
  exact ⟨fd, fun s v => b s [v] rfl, fun base _ _ => ok base⟩
end Kn

set_option Elab.async false
set_option linter.all false
set_option maxRecDepth 100000
set_option maxHeartbeats 0
open PySem PySem.W PySem.Calls PyProof.Rows
theorem PySem.Challenge.cw_knotspools_k71_whole_same_by_steps_holds : PySem.Challenge.rw_knotspools_k71_whole_same_by_steps.Holds := by
  w_on; o_law
  refine HandSHeadRun.head_any (r := OpenLaw.row PySem.Challenge.rw_knotspools_k71_whole_same_by_steps) (q := view (OpenLaw.row PySem.Challenge.rw_knotspools_k71_whole_same_by_steps).prog [92]) (H := Kn.hk) (ob := Kn.ob) (M := 4000) (loose := Kn.names) (d := HandSHeadRun.topDef (OpenLaw.row PySem.Challenge.rw_knotspools_k71_whole_same_by_steps).prog 92) (kwd := []) Kn.ob_eq
    (by kernel_rfl) (fun s => by kernel_rfl) Kn.run (by kernel_rfl) (by kernel_rfl) (by kernel_rfl) (by rfl) (by first | assumption | decide +kernel) (by decide +kernel) ⟨rfl, rfl, rfl, rfl, rfl, by decide +kernel⟩ ?hw ?hc
  case hw => w_witness2
  case hc =>
    refine Kn.walk_ofG (l := PySem.Challenge.rw_knotspools_k71_whole_same_by_steps) (n := 63) (k := 12) (x := "_law_script") rfl (by decide) (by kernel_rfl) ⟨rfl, by decide, by decide⟩ ?F
    intro w mg fa h Y G hmg0
    obtain ⟨K, KX, c⟩ := Y
    have hmg : mg ("law" : PySem.Str) = some (.ref fa) := by
      have e : (HandSHeadRun.topDef (OpenLaw.row PySem.Challenge.rw_knotspools_k71_whole_same_by_steps).prog 92).name = ("law" : PySem.Str) := by kernel_rfl
      rw [← e]
      exact hmg0
    obtain ⟨fd, hb, hF⟩ := Kn.law_at (P := (PySem.Challenge.rw_knotspools_k71_whole_same_by_steps).prog) (w := w) KX G hmg c.t c.more
    exact ⟨K, fd, Kn.sp_law K, KX, hb, fun H a ns hl _ hS => Kn.sp_law_head hl hS, hF⟩

