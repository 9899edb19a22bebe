import PyProof.Rows.All
import Wide.All
import OpenK.AllK
import Wide.FinOn
import KE.KStateDown
import Lean
import HandS.ForMost
import HandS.ForExc
import HandS.Defaults
import HandS.DictComp
import HandS.SortRule
import HandS.SetKeys
import HandS.IsInst
import HandS.TupAny
import HandS.Zip
import HandS.Conv
import HandS.Deep
import HandS.More
import HandS.Evl
import HandS.Head0
import HandS.Head1
import HandS.Head2
import HandS.HeadEnd
import HandS.HeadHook1
import HandS.HeadHook2
import HandS.HeadNt
import PySem.Challenge.RW_foldervotes_k14_whole_losses_that_are_al
set_option Elab.async false
set_option linter.all false
set_option maxRecDepth 100000
set_option maxHeartbeats 4000000
section
namespace Fv
open PySem PySem.Spec PyProof.Rows L2
/-! ### the text by places -/
def top (i : Nat) : Stmt := PySem.Challenge.pw_foldervotes_k14_whole_losses_that_are_al.main.body.getD i (.Pass ⟨0, 0, 0, 0⟩)
abbrev s_is_integer : Stmt := top 11
abbrev N_is_integer : List Str := ["thing"]
theorem sc_is_integer : FnScope ["thing"] ["thing"] (defScope s_is_integer) := ⟨rfl, rfl, rfl, by decide +kernel, rfl, by decide +kernel, by decide +kernel⟩
abbrev s_is_within : Stmt := top 12
abbrev N_is_within : List Str := ["thing", "least", "most"]
theorem sc_is_within : FnScope ["thing", "least", "most"] ["thing", "least", "most"] (defScope s_is_within) := ⟨rfl, rfl, rfl, by decide +kernel, rfl, by decide +kernel, by decide +kernel⟩
abbrev s_is_pair : Stmt := top 13
abbrev N_is_pair : List Str := ["thing"]
theorem sc_is_pair : FnScope ["thing"] ["thing"] (defScope s_is_pair) := ⟨rfl, rfl, rfl, by decide +kernel, rfl, by decide +kernel, by decide +kernel⟩
abbrev s_is_ascending : Stmt := top 14
abbrev N_is_ascending : List Str := ["items", "one", "other"]
theorem sc_is_ascending : FnScope ["items", "one", "other"] ["items"] (defScope s_is_ascending) := ⟨rfl, rfl, rfl, by decide +kernel, rfl, by decide +kernel, by decide +kernel⟩
abbrev s_is_lot : Stmt := top 15
abbrev N_is_lot : List Str := ["thing", "least", "most", "item"]
theorem sc_is_lot : FnScope ["thing", "least", "most", "item"] ["thing", "least", "most"] (defScope s_is_lot) := ⟨rfl, rfl, rfl, by decide +kernel, rfl, by decide +kernel, by decide +kernel⟩
abbrev s_is_view : Stmt := top 16
abbrev N_is_view : List Str := ["thing", "item"]
theorem sc_is_view : FnScope ["thing", "item"] ["thing"] (defScope s_is_view) := ⟨rfl, rfl, rfl, by decide +kernel, rfl, by decide +kernel, by decide +kernel⟩
abbrev s_check_view : Stmt := top 17
abbrev N_check_view : List Str := ["view"]
theorem sc_check_view : FnScope ["view"] ["view"] (defScope s_check_view) := ⟨rfl, rfl, rfl, by decide +kernel, rfl, by decide +kernel, by decide +kernel⟩
abbrev s_check_lot : Stmt := top 18
abbrev N_check_lot : List Str := ["blocks", "thing"]
theorem sc_check_lot : FnScope ["blocks", "thing"] ["blocks", "thing"] (defScope s_check_lot) := ⟨rfl, rfl, rfl, by decide +kernel, rfl, by decide +kernel, by decide +kernel⟩
abbrev s_leads_home : Stmt := top 21
abbrev N_leads_home : List Str := ["hung", "block", "here", "turn"]
theorem sc_leads_home : FnScope ["hung", "block", "here", "turn"] ["hung", "block"] (defScope s_leads_home) := ⟨rfl, rfl, rfl, by decide +kernel, rfl, by decide +kernel, by decide +kernel⟩
abbrev s_Tree_init : Stmt := inClass (top 22) 0
abbrev N_Tree_init : List Str := ["self", "hung", "block"]
theorem sc_Tree_init : FnScope ["self", "hung", "block"] ["self", "hung"] (defScope s_Tree_init) := ⟨rfl, rfl, rfl, by decide +kernel, rfl, by decide +kernel, by decide +kernel⟩
abbrev s_parents_in : Stmt := top 23
abbrev N_parents_in : List Str := ["hung", "place", "found", "here"]
theorem sc_parents_in : FnScope ["hung", "place", "found", "here"] ["hung", "place"] (defScope s_parents_in) := ⟨rfl, rfl, rfl, by decide +kernel, rfl, by decide +kernel, by decide +kernel⟩
abbrev s_hanging : Stmt := top 24
abbrev N_hanging : List Str := ["hung", "place", "block"]
theorem sc_hanging : FnScope ["hung", "place", "block"] ["hung", "place"] (defScope s_hanging) := ⟨rfl, rfl, rfl, by decide +kernel, rfl, by decide +kernel, by decide +kernel⟩
abbrev s_ties_down : Stmt := top 26
abbrev N_ties_down : List Str := ["hung", "place", "steps", "found", "layer", "step", "later", "here", "block"]
theorem sc_ties_down : FnScope ["hung", "place", "steps", "found", "layer", "step", "later", "here", "block"] ["hung", "place", "steps"] (defScope s_ties_down) := ⟨rfl, rfl, rfl, by decide +kernel, rfl, by decide +kernel, by decide +kernel⟩
abbrev s_raw_telling : Stmt := top 27
abbrev N_raw_telling : List Str := ["hung", "view", "place"]
theorem sc_raw_telling : FnScope ["hung", "view", "place"] ["hung", "view", "place"] (defScope s_raw_telling) := ⟨rfl, rfl, rfl, by decide +kernel, rfl, by decide +kernel, by decide +kernel⟩
abbrev s_raw_distance : Stmt := top 28
abbrev N_raw_distance : List Str := ["view", "up", "down", "more"]
theorem sc_raw_distance : FnScope ["view", "up", "down", "more"] ["view"] (defScope s_raw_distance) := ⟨rfl, rfl, rfl, by decide +kernel, rfl, by decide +kernel, by decide +kernel⟩
abbrev s_distance : Stmt := top 29
abbrev N_distance : List Str := ["view"]
theorem sc_distance : FnScope ["view"] ["view"] (defScope s_distance) := ⟨rfl, rfl, rfl, by decide +kernel, rfl, by decide +kernel, by decide +kernel⟩
abbrev s_is_tie : Stmt := top 31
abbrev N_is_tie : List Str := ["blocks", "thing"]
theorem sc_is_tie : FnScope ["blocks", "thing"] ["blocks", "thing"] (defScope s_is_tie) := ⟨rfl, rfl, rfl, by decide +kernel, rfl, by decide +kernel, by decide +kernel⟩
abbrev s_has_form : Stmt := top 32
abbrev N_has_form : List Str := ["view", "blocks", "place", "thing", "row", "ties", "most", "item"]
theorem sc_has_form : FnScope ["view", "blocks", "place", "thing", "row", "ties", "most", "item"] ["view", "blocks", "place", "thing"] (defScope s_has_form) := ⟨rfl, rfl, rfl, by decide +kernel, rfl, by decide +kernel, by decide +kernel⟩
abbrev s_Picture_init : Stmt := inClass (top 33) 0
abbrev N_Picture_init : List Str := ["self", "view", "blocks", "told", "place"]
theorem sc_Picture_init : FnScope ["self", "view", "blocks", "told", "place"] ["self", "view", "blocks", "told"] (defScope s_Picture_init) := ⟨rfl, rfl, rfl, by decide +kernel, rfl, by decide +kernel, by decide +kernel⟩
abbrev s_seen : Stmt := top 34
abbrev N_seen : List Str := ["tree", "view", "lost", "places", "place"]
theorem sc_seen : FnScope ["tree", "view", "lost", "places", "place"] ["tree", "view", "lost"] (defScope s_seen) := ⟨rfl, rfl, rfl, by decide +kernel, rfl, by decide +kernel, by decide +kernel⟩
abbrev s_does_fit : Stmt := top 35
abbrev N_does_fit : List Str := ["picture", "hung", "place"]
theorem sc_does_fit : FnScope ["picture", "hung", "place"] ["picture", "hung"] (defScope s_does_fit) := ⟨rfl, rfl, rfl, by decide +kernel, rfl, by decide +kernel, by decide +kernel⟩
abbrev s_told_ties : Stmt := top 37
abbrev N_told_ties : List Str := ["picture", "found", "place", "row", "ties", "block", "here"]
theorem sc_told_ties : FnScope ["picture", "found", "place", "row", "ties", "block", "here"] ["picture"] (defScope s_told_ties) := ⟨rfl, rfl, rfl, by decide +kernel, rfl, by decide +kernel, by decide +kernel⟩
abbrev s_ties_known : Stmt := top 38
abbrev N_ties_known : List Str := ["picture", "found", "block", "place"]
theorem sc_ties_known : FnScope ["picture", "found", "block", "place"] ["picture"] (defScope s_ties_known) := ⟨rfl, rfl, rfl, by decide +kernel, rfl, by decide +kernel, by decide +kernel⟩
abbrev s_way_up : Stmt := top 39
abbrev N_way_up : List Str := ["ties", "place", "most", "found"]
theorem sc_way_up : FnScope ["ties", "place", "most", "found"] ["ties", "place", "most"] (defScope s_way_up) := ⟨rfl, rfl, rfl, by decide +kernel, rfl, by decide +kernel, by decide +kernel⟩
abbrev s_Laid_init : Stmt := inClass (top 40) 0
abbrev N_Laid_init : List Str := ["self", "picture", "ties", "ways", "down", "places", "place", "way", "top", "here"]
theorem sc_Laid_init : FnScope ["self", "picture", "ties", "ways", "down", "places", "place", "way", "top", "here"] ["self", "picture", "ties", "ways"] (defScope s_Laid_init) := ⟨rfl, rfl, rfl, by decide +kernel, rfl, by decide +kernel, by decide +kernel⟩
abbrev s_Laid_many : Stmt := inClass (top 40) 1
abbrev N_Laid_many : List Str := ["self", "found", "top"]
theorem sc_Laid_many : FnScope ["self", "found", "top"] ["self"] (defScope s_Laid_many) := ⟨rfl, rfl, rfl, by decide +kernel, rfl, by decide +kernel, by decide +kernel⟩
abbrev s_Laid_hung_by : Stmt := inClass (top 40) 2
abbrev N_Laid_hung_by : List Str := ["self", "notes", "found", "left", "step", "place", "held", "top", "later", "one", "block"]
theorem sc_Laid_hung_by : FnScope ["self", "notes", "found", "left", "step", "place", "held", "top", "later", "one", "block"] ["self", "notes"] (defScope s_Laid_hung_by) := ⟨rfl, rfl, rfl, by decide +kernel, rfl, by decide +kernel, by decide +kernel⟩
abbrev s_Laid_digits : Stmt := inClass (top 40) 4
abbrev N_Laid_digits : List Str := ["self", "pieces"]
theorem sc_Laid_digits : FnScope ["self", "pieces"] ["self"] (defScope s_Laid_digits) := ⟨rfl, rfl, rfl, by decide +kernel, rfl, by decide +kernel, by decide +kernel⟩
abbrev s_laid_or_none : Stmt := top 41
abbrev N_laid_or_none : List Str := ["picture", "ties", "ways", "found", "first", "place", "lot"]
theorem sc_laid_or_none : FnScope ["picture", "ties", "ways", "found", "first", "place", "lot"] ["picture"] (defScope s_laid_or_none) := ⟨rfl, rfl, rfl, by decide +kernel, rfl, by decide +kernel, by decide +kernel⟩
abbrev s_laid : Stmt := top 42
abbrev N_laid : List Str := ["picture", "found"]
theorem sc_laid : FnScope ["picture", "found"] ["picture"] (defScope s_laid) := ⟨rfl, rfl, rfl, by decide +kernel, rfl, by decide +kernel, by decide +kernel⟩
abbrev s_many_trees : Stmt := top 43
abbrev N_many_trees : List Str := ["picture"]
theorem sc_many_trees : FnScope ["picture"] ["picture"] (defScope s_many_trees) := ⟨rfl, rfl, rfl, by decide +kernel, rfl, by decide +kernel, by decide +kernel⟩
abbrev s_always : Stmt := top 44
abbrev N_always : List Str := ["view", "most"]
theorem sc_always : FnScope ["view", "most"] ["view"] (defScope s_always) := ⟨rfl, rfl, rfl, by decide +kernel, rfl, by decide +kernel, by decide +kernel⟩
abbrev s_law_hand : Stmt := top 46
abbrev N_law_hand : List Str := ["_law_script", "_law_cells", "_law_cell"]
theorem sc_law_hand : FnScope ["_law_script", "_law_cells", "_law_cell"] ["_law_script"] (defScope s_law_hand) := ⟨rfl, rfl, rfl, by decide +kernel, rfl, by decide +kernel, by decide +kernel⟩
abbrev s_law_draw : Stmt := top 47
abbrev N_law_draw : List Str := ["_law_hand_here", "_law_many", "_law_cell", "_law_digit", "_law_number"]
theorem sc_law_draw : FnScope ["_law_hand_here", "_law_many", "_law_cell", "_law_digit", "_law_number"] ["_law_hand_here", "_law_many"] (defScope s_law_draw) := ⟨rfl, rfl, rfl, by decide +kernel, rfl, by decide +kernel, by decide +kernel⟩
abbrev s_law_tree : Stmt := top 48
abbrev N_law_tree : List Str := ["_law_hand_here", "_law_many", "_law_left_here", "_law_places", "_law_found", "_law_block"]
theorem sc_law_tree : FnScope ["_law_hand_here", "_law_many", "_law_left_here", "_law_places", "_law_found", "_law_block"] ["_law_hand_here", "_law_many"] (defScope s_law_tree) := ⟨rfl, rfl, rfl, by decide +kernel, rfl, by decide +kernel, by decide +kernel⟩
abbrev s_law_is_tree : Stmt := top 50
abbrev N_law_is_tree : List Str := ["_law_hung", "_law_block", "_law_here", "_law_turn"]
theorem sc_law_is_tree : FnScope ["_law_hung", "_law_block", "_law_here", "_law_turn"] ["_law_hung"] (defScope s_law_is_tree) := ⟨rfl, rfl, rfl, by decide +kernel, rfl, by decide +kernel, by decide +kernel⟩
abbrev s_law_trees : Stmt := top 51
abbrev N_law_trees : List Str := ["_law_many", "_law_found", "_law_block", "_law_longer", "_law_row_here", "_law_place", "_law_hung"]
theorem sc_law_trees : FnScope ["_law_many", "_law_found", "_law_block", "_law_longer", "_law_row_here", "_law_place", "_law_hung"] ["_law_many"] (defScope s_law_trees) := ⟨rfl, rfl, rfl, by decide +kernel, rfl, by decide +kernel, by decide +kernel⟩
abbrev s_law_view : Stmt := top 52
abbrev N_law_view : List Str := ["_law_hand_here"]
theorem sc_law_view : FnScope ["_law_hand_here"] ["_law_hand_here"] (defScope s_law_view) := ⟨rfl, rfl, rfl, by decide +kernel, rfl, by decide +kernel, by decide +kernel⟩
abbrev s_law_lots : Stmt := top 57
abbrev N_law_lots : List Str := ["_law_many", "_law_size", "_law_found", "_law_turn", "_law_longer", "_law_lot_here", "_law_block"]
theorem sc_law_lots : FnScope ["_law_many", "_law_size", "_law_found", "_law_turn", "_law_longer", "_law_lot_here", "_law_block"] ["_law_many", "_law_size"] (defScope s_law_lots) := ⟨rfl, rfl, rfl, by decide +kernel, rfl, by decide +kernel, by decide +kernel⟩
abbrev s_law_some_lot : Stmt := top 58
abbrev N_law_some_lot : List Str := ["_law_hand_here", "_law_many", "_law_size", "_law_left_here", "_law_found", "_law_turn"]
theorem sc_law_some_lot : FnScope ["_law_hand_here", "_law_many", "_law_size", "_law_left_here", "_law_found", "_law_turn"] ["_law_hand_here", "_law_many", "_law_size"] (defScope s_law_some_lot) := ⟨rfl, rfl, rfl, by decide +kernel, rfl, by decide +kernel, by decide +kernel⟩
abbrev s_law_left : Stmt := top 59
abbrev N_law_left : List Str := ["_law_hung", "_law_view_here", "_law_lot_here"]
theorem sc_law_left : FnScope ["_law_hung", "_law_view_here", "_law_lot_here"] ["_law_hung", "_law_view_here", "_law_lot_here"] (defScope s_law_left) := ⟨rfl, rfl, rfl, by decide +kernel, rfl, by decide +kernel, by decide +kernel⟩
abbrev s_law_is_too_much : Stmt := top 60
abbrev N_law_is_too_much : List Str := ["_law_view_here", "_law_size", "_law_hung", "_law_lot_here"]
theorem sc_law_is_too_much : FnScope ["_law_view_here", "_law_size", "_law_hung", "_law_lot_here"] ["_law_view_here", "_law_size"] (defScope s_law_is_too_much) := ⟨rfl, rfl, rfl, by decide +kernel, rfl, by decide +kernel, by decide +kernel⟩
abbrev s_law : Stmt := top 61
abbrev N_law : List Str := ["_law_script", "_law_hand_here", "_law_turn", "_law_view_here", "_law_up", "_law_down", "_law_due", "_law_told_here", "_law_many", "_law_hung", "_law_again", "_law_lot_here"]
theorem sc_law : FnScope ["_law_script", "_law_hand_here", "_law_turn", "_law_view_here", "_law_up", "_law_down", "_law_due", "_law_told_here", "_law_many", "_law_hung", "_law_again", "_law_lot_here"] ["_law_script"] (defScope s_law) := ⟨rfl, rfl, rfl, by decide +kernel, rfl, by decide +kernel, by decide +kernel⟩
/-! ### the facts of the top -/
def d_is_integer : He.DefD := ⟨("is_integer", none), "is_integer", "is_integer", defArgs s_is_integer, defBody s_is_integer, defScope s_is_integer, [], []⟩
def d_is_within : He.DefD := ⟨("is_within", none), "is_within", "is_within", defArgs s_is_within, defBody s_is_within, defScope s_is_within, [], []⟩
def d_is_pair : He.DefD := ⟨("is_pair", none), "is_pair", "is_pair", defArgs s_is_pair, defBody s_is_pair, defScope s_is_pair, [], []⟩
def d_is_ascending : He.DefD := ⟨("is_ascending", none), "is_ascending", "is_ascending", defArgs s_is_ascending, defBody s_is_ascending, defScope s_is_ascending, [], []⟩
def d_is_lot : He.DefD := ⟨("is_lot", none), "is_lot", "is_lot", defArgs s_is_lot, defBody s_is_lot, defScope s_is_lot, [], []⟩
def d_is_view : He.DefD := ⟨("is_view", none), "is_view", "is_view", defArgs s_is_view, defBody s_is_view, defScope s_is_view, [], []⟩
def d_check_view : He.DefD := ⟨("check_view", none), "check_view", "check_view", defArgs s_check_view, defBody s_check_view, defScope s_check_view, [], []⟩
def d_check_lot : He.DefD := ⟨("check_lot", none), "check_lot", "check_lot", defArgs s_check_lot, defBody s_check_lot, defScope s_check_lot, [], []⟩
def d_leads_home : He.DefD := ⟨("leads_home", none), "leads_home", "leads_home", defArgs s_leads_home, defBody s_leads_home, defScope s_leads_home, [], []⟩
def d_Tree_init : He.DefD := ⟨("Tree", some "__init__"), "__init__", "Tree.__init__", defArgs s_Tree_init, defBody s_Tree_init, defScope s_Tree_init, [], []⟩
def d_parents_in : He.DefD := ⟨("parents_in", none), "parents_in", "parents_in", defArgs s_parents_in, defBody s_parents_in, defScope s_parents_in, [], []⟩
def d_hanging : He.DefD := ⟨("hanging", none), "hanging", "hanging", defArgs s_hanging, defBody s_hanging, defScope s_hanging, [], []⟩
def d_ties_down : He.DefD := ⟨("ties_down", none), "ties_down", "ties_down", defArgs s_ties_down, defBody s_ties_down, defScope s_ties_down, [], []⟩
def d_raw_telling : He.DefD := ⟨("raw_telling", none), "raw_telling", "raw_telling", defArgs s_raw_telling, defBody s_raw_telling, defScope s_raw_telling, [], []⟩
def d_raw_distance : He.DefD := ⟨("raw_distance", none), "raw_distance", "raw_distance", defArgs s_raw_distance, defBody s_raw_distance, defScope s_raw_distance, [], []⟩
def d_distance : He.DefD := ⟨("distance", none), "distance", "distance", defArgs s_distance, defBody s_distance, defScope s_distance, [], []⟩
def d_is_tie : He.DefD := ⟨("is_tie", none), "is_tie", "is_tie", defArgs s_is_tie, defBody s_is_tie, defScope s_is_tie, [], []⟩
def d_has_form : He.DefD := ⟨("has_form", none), "has_form", "has_form", defArgs s_has_form, defBody s_has_form, defScope s_has_form, [], []⟩
def d_Picture_init : He.DefD := ⟨("Picture", some "__init__"), "__init__", "Picture.__init__", defArgs s_Picture_init, defBody s_Picture_init, defScope s_Picture_init, [], []⟩
def d_seen : He.DefD := ⟨("seen", none), "seen", "seen", defArgs s_seen, defBody s_seen, defScope s_seen, [], []⟩
def d_does_fit : He.DefD := ⟨("does_fit", none), "does_fit", "does_fit", defArgs s_does_fit, defBody s_does_fit, defScope s_does_fit, [], []⟩
def d_told_ties : He.DefD := ⟨("told_ties", none), "told_ties", "told_ties", defArgs s_told_ties, defBody s_told_ties, defScope s_told_ties, [], []⟩
def d_ties_known : He.DefD := ⟨("ties_known", none), "ties_known", "ties_known", defArgs s_ties_known, defBody s_ties_known, defScope s_ties_known, [], []⟩
def d_way_up : He.DefD := ⟨("way_up", none), "way_up", "way_up", defArgs s_way_up, defBody s_way_up, defScope s_way_up, [], []⟩
def d_Laid_init : He.DefD := ⟨("Laid", some "__init__"), "__init__", "Laid.__init__", defArgs s_Laid_init, defBody s_Laid_init, defScope s_Laid_init, [], []⟩
def d_Laid_many : He.DefD := ⟨("Laid", some "many"), "many", "Laid.many", defArgs s_Laid_many, defBody s_Laid_many, defScope s_Laid_many, [], []⟩
def d_Laid_hung_by : He.DefD := ⟨("Laid", some "hung_by"), "hung_by", "Laid.hung_by", defArgs s_Laid_hung_by, defBody s_Laid_hung_by, defScope s_Laid_hung_by, [], []⟩
def d_Laid_digits : He.DefD := ⟨("Laid", some "digits"), "digits", "Laid.digits", defArgs s_Laid_digits, defBody s_Laid_digits, defScope s_Laid_digits, [], []⟩
def d_laid_or_none : He.DefD := ⟨("laid_or_none", none), "laid_or_none", "laid_or_none", defArgs s_laid_or_none, defBody s_laid_or_none, defScope s_laid_or_none, [], []⟩
def d_laid : He.DefD := ⟨("laid", none), "laid", "laid", defArgs s_laid, defBody s_laid, defScope s_laid, [], []⟩
def d_many_trees : He.DefD := ⟨("many_trees", none), "many_trees", "many_trees", defArgs s_many_trees, defBody s_many_trees, defScope s_many_trees, [], []⟩
def d_always : He.DefD := ⟨("always", none), "always", "always", defArgs s_always, defBody s_always, defScope s_always, [], []⟩
def d_law_hand : He.DefD := ⟨("_law_hand", none), "_law_hand", "_law_hand", defArgs s_law_hand, defBody s_law_hand, defScope s_law_hand, [], []⟩
def d_law_draw : He.DefD := ⟨("_law_draw", none), "_law_draw", "_law_draw", defArgs s_law_draw, defBody s_law_draw, defScope s_law_draw, [], []⟩
def d_law_tree : He.DefD := ⟨("_law_tree", none), "_law_tree", "_law_tree", defArgs s_law_tree, defBody s_law_tree, defScope s_law_tree, [], []⟩
def d_law_is_tree : He.DefD := ⟨("_law_is_tree", none), "_law_is_tree", "_law_is_tree", defArgs s_law_is_tree, defBody s_law_is_tree, defScope s_law_is_tree, [], []⟩
def d_law_trees : He.DefD := ⟨("_law_trees", none), "_law_trees", "_law_trees", defArgs s_law_trees, defBody s_law_trees, defScope s_law_trees, [], []⟩
def d_law_view : He.DefD := ⟨("_law_view", none), "_law_view", "_law_view", defArgs s_law_view, defBody s_law_view, defScope s_law_view, [], []⟩
def d_law_lots : He.DefD := ⟨("_law_lots", none), "_law_lots", "_law_lots", defArgs s_law_lots, defBody s_law_lots, defScope s_law_lots, [], []⟩
def d_law_some_lot : He.DefD := ⟨("_law_some_lot", none), "_law_some_lot", "_law_some_lot", defArgs s_law_some_lot, defBody s_law_some_lot, defScope s_law_some_lot, [], []⟩
def d_law_left : He.DefD := ⟨("_law_left", none), "_law_left", "_law_left", defArgs s_law_left, defBody s_law_left, defScope s_law_left, [], []⟩
def d_law_is_too_much : He.DefD := ⟨("_law_is_too_much", none), "_law_is_too_much", "_law_is_too_much", defArgs s_law_is_too_much, defBody s_law_is_too_much, defScope s_law_is_too_much, [], []⟩
def d_law : He.DefD := ⟨("law", none), "law", "law", defArgs s_law, defBody s_law, defScope s_law, [], []⟩
def fn : List He.DefD := [d_is_integer, d_is_within, d_is_pair, d_is_ascending, d_is_lot, d_is_view, d_check_view, d_check_lot, d_leads_home, d_Tree_init, d_parents_in, d_hanging, d_ties_down, d_raw_telling, d_raw_distance, d_distance, d_is_tie, d_has_form, d_Picture_init, d_seen, d_does_fit, d_told_ties, d_ties_known, d_way_up, d_Laid_init, d_Laid_many, d_Laid_hung_by, d_Laid_digits, d_laid_or_none, d_laid, d_many_trees, d_always, d_law_hand, d_law_draw, d_law_tree, d_law_is_tree, d_law_trees, d_law_view, d_law_lots, d_law_some_lot, d_law_left, d_law_is_too_much, d_law]
def fa : List He.Fa := [.glo "is_integer", .glo "is_within", .glo "is_pair", .glo "is_ascending", .glo "is_lot", .glo "is_view", .glo "check_view", .glo "check_lot", .glo "leads_home", .glo "parents_in", .glo "hanging", .glo "ties_down", .glo "raw_telling", .glo "raw_distance", .glo "distance", .glo "is_tie", .glo "has_form", .glo "seen", .glo "does_fit", .glo "told_ties", .glo "ties_known", .glo "way_up", .glo "laid_or_none", .glo "laid", .glo "many_trees", .glo "always", .glo "_law_hand", .glo "_law_draw", .glo "_law_tree", .glo "_law_is_tree", .glo "_law_trees", .glo "_law_view", .glo "_law_lots", .glo "_law_some_lot", .glo "_law_left", .glo "_law_is_too_much", .glo "law", .glo "Tree", .cls "Tree", .mkr "Tree", .glo "Picture", .cls "Picture", .mkr "Picture", .glo "Laid", .cls "Laid", .mkr "Laid", .noat "Tree" "hung", .noat "Picture" "view", .noat "Picture" "blocks", .noat "Picture" "told", .noat "Laid" "blocks", .noat "Laid" "ties", .noat "Laid" "piece", .noat "Laid" "tops", .noat "Laid" "lots", .noat "Laid" "every", .meth "Laid" "many", .meth "Laid" "hung_by", .meth "Laid" "digits", .int "HEAD" 0, .int "MOST_BLOCKS" 40, .int "MOST_STEPS" 4, .free "len", .free "all", .free "any", .free "min", .free "sorted", .free "isinstance", .free "abs", .free "range", .free "enumerate", .free "zip", .free "tuple", .free "list", .free "dict", .free "int", .free "bool"]
abbrev cTree (K : PySem.W.Frag) : Addr := He.ga K "Tree"
abbrev cPic (K : PySem.W.Frag) : Addr := He.ga K "Picture"
abbrev cLaid (K : PySem.W.Frag) : Addr := He.ga K "Laid"
structure Txt (K : PySem.W.Frag) (mg : Str → Option Value) : Prop where
  f_is_integer : ∃ fd, Fun K "is_integer" "is_integer" s_is_integer (He.fAd K ("is_integer", none)) fd
  f_is_within : ∃ fd, Fun K "is_within" "is_within" s_is_within (He.fAd K ("is_within", none)) fd
  f_is_pair : ∃ fd, Fun K "is_pair" "is_pair" s_is_pair (He.fAd K ("is_pair", none)) fd
  f_is_ascending : ∃ fd, Fun K "is_ascending" "is_ascending" s_is_ascending (He.fAd K ("is_ascending", none)) fd
  f_is_lot : ∃ fd, Fun K "is_lot" "is_lot" s_is_lot (He.fAd K ("is_lot", none)) fd
  f_is_view : ∃ fd, Fun K "is_view" "is_view" s_is_view (He.fAd K ("is_view", none)) fd
  f_check_view : ∃ fd, Fun K "check_view" "check_view" s_check_view (He.fAd K ("check_view", none)) fd
  f_check_lot : ∃ fd, Fun K "check_lot" "check_lot" s_check_lot (He.fAd K ("check_lot", none)) fd
  f_leads_home : ∃ fd, Fun K "leads_home" "leads_home" s_leads_home (He.fAd K ("leads_home", none)) fd
  f_Tree_init : ∃ fd, Fun K "__init__" "Tree.__init__" s_Tree_init (He.fAd K ("Tree", some "__init__")) fd
  f_parents_in : ∃ fd, Fun K "parents_in" "parents_in" s_parents_in (He.fAd K ("parents_in", none)) fd
  f_hanging : ∃ fd, Fun K "hanging" "hanging" s_hanging (He.fAd K ("hanging", none)) fd
  f_ties_down : ∃ fd, Fun K "ties_down" "ties_down" s_ties_down (He.fAd K ("ties_down", none)) fd
  f_raw_telling : ∃ fd, Fun K "raw_telling" "raw_telling" s_raw_telling (He.fAd K ("raw_telling", none)) fd
  f_raw_distance : ∃ fd, Fun K "raw_distance" "raw_distance" s_raw_distance (He.fAd K ("raw_distance", none)) fd
  f_distance : ∃ fd, Fun K "distance" "distance" s_distance (He.fAd K ("distance", none)) fd
  f_is_tie : ∃ fd, Fun K "is_tie" "is_tie" s_is_tie (He.fAd K ("is_tie", none)) fd
  f_has_form : ∃ fd, Fun K "has_form" "has_form" s_has_form (He.fAd K ("has_form", none)) fd
  f_Picture_init : ∃ fd, Fun K "__init__" "Picture.__init__" s_Picture_init (He.fAd K ("Picture", some "__init__")) fd
  f_seen : ∃ fd, Fun K "seen" "seen" s_seen (He.fAd K ("seen", none)) fd
  f_does_fit : ∃ fd, Fun K "does_fit" "does_fit" s_does_fit (He.fAd K ("does_fit", none)) fd
  f_told_ties : ∃ fd, Fun K "told_ties" "told_ties" s_told_ties (He.fAd K ("told_ties", none)) fd
  f_ties_known : ∃ fd, Fun K "ties_known" "ties_known" s_ties_known (He.fAd K ("ties_known", none)) fd
  f_way_up : ∃ fd, Fun K "way_up" "way_up" s_way_up (He.fAd K ("way_up", none)) fd
  f_Laid_init : ∃ fd, Fun K "__init__" "Laid.__init__" s_Laid_init (He.fAd K ("Laid", some "__init__")) fd
  f_Laid_many : ∃ fd, Fun K "many" "Laid.many" s_Laid_many (He.fAd K ("Laid", some "many")) fd
  f_Laid_hung_by : ∃ fd, Fun K "hung_by" "Laid.hung_by" s_Laid_hung_by (He.fAd K ("Laid", some "hung_by")) fd
  f_Laid_digits : ∃ fd, Fun K "digits" "Laid.digits" s_Laid_digits (He.fAd K ("Laid", some "digits")) fd
  f_laid_or_none : ∃ fd, Fun K "laid_or_none" "laid_or_none" s_laid_or_none (He.fAd K ("laid_or_none", none)) fd
  f_laid : ∃ fd, Fun K "laid" "laid" s_laid (He.fAd K ("laid", none)) fd
  f_many_trees : ∃ fd, Fun K "many_trees" "many_trees" s_many_trees (He.fAd K ("many_trees", none)) fd
  f_always : ∃ fd, Fun K "always" "always" s_always (He.fAd K ("always", none)) fd
  f_law_hand : ∃ fd, Fun K "_law_hand" "_law_hand" s_law_hand (He.fAd K ("_law_hand", none)) fd
  f_law_draw : ∃ fd, Fun K "_law_draw" "_law_draw" s_law_draw (He.fAd K ("_law_draw", none)) fd
  f_law_tree : ∃ fd, Fun K "_law_tree" "_law_tree" s_law_tree (He.fAd K ("_law_tree", none)) fd
  f_law_is_tree : ∃ fd, Fun K "_law_is_tree" "_law_is_tree" s_law_is_tree (He.fAd K ("_law_is_tree", none)) fd
  f_law_trees : ∃ fd, Fun K "_law_trees" "_law_trees" s_law_trees (He.fAd K ("_law_trees", none)) fd
  f_law_view : ∃ fd, Fun K "_law_view" "_law_view" s_law_view (He.fAd K ("_law_view", none)) fd
  f_law_lots : ∃ fd, Fun K "_law_lots" "_law_lots" s_law_lots (He.fAd K ("_law_lots", none)) fd
  f_law_some_lot : ∃ fd, Fun K "_law_some_lot" "_law_some_lot" s_law_some_lot (He.fAd K ("_law_some_lot", none)) fd
  f_law_left : ∃ fd, Fun K "_law_left" "_law_left" s_law_left (He.fAd K ("_law_left", none)) fd
  f_law_is_too_much : ∃ fd, Fun K "_law_is_too_much" "_law_is_too_much" s_law_is_too_much (He.fAd K ("_law_is_too_much", none)) fd
  f_law : ∃ fd, Fun K "law" "law" s_law (He.fAd K ("law", none)) fd
  g_is_integer : mg "is_integer" = some (.ref (He.ga K "is_integer"))
  g_is_within : mg "is_within" = some (.ref (He.ga K "is_within"))
  g_is_pair : mg "is_pair" = some (.ref (He.ga K "is_pair"))
  g_is_ascending : mg "is_ascending" = some (.ref (He.ga K "is_ascending"))
  g_is_lot : mg "is_lot" = some (.ref (He.ga K "is_lot"))
  g_is_view : mg "is_view" = some (.ref (He.ga K "is_view"))
  g_check_view : mg "check_view" = some (.ref (He.ga K "check_view"))
  g_check_lot : mg "check_lot" = some (.ref (He.ga K "check_lot"))
  g_leads_home : mg "leads_home" = some (.ref (He.ga K "leads_home"))
  g_parents_in : mg "parents_in" = some (.ref (He.ga K "parents_in"))
  g_hanging : mg "hanging" = some (.ref (He.ga K "hanging"))
  g_ties_down : mg "ties_down" = some (.ref (He.ga K "ties_down"))
  g_raw_telling : mg "raw_telling" = some (.ref (He.ga K "raw_telling"))
  g_raw_distance : mg "raw_distance" = some (.ref (He.ga K "raw_distance"))
  g_distance : mg "distance" = some (.ref (He.ga K "distance"))
  g_is_tie : mg "is_tie" = some (.ref (He.ga K "is_tie"))
  g_has_form : mg "has_form" = some (.ref (He.ga K "has_form"))
  g_seen : mg "seen" = some (.ref (He.ga K "seen"))
  g_does_fit : mg "does_fit" = some (.ref (He.ga K "does_fit"))
  g_told_ties : mg "told_ties" = some (.ref (He.ga K "told_ties"))
  g_ties_known : mg "ties_known" = some (.ref (He.ga K "ties_known"))
  g_way_up : mg "way_up" = some (.ref (He.ga K "way_up"))
  g_laid_or_none : mg "laid_or_none" = some (.ref (He.ga K "laid_or_none"))
  g_laid : mg "laid" = some (.ref (He.ga K "laid"))
  g_many_trees : mg "many_trees" = some (.ref (He.ga K "many_trees"))
  g_always : mg "always" = some (.ref (He.ga K "always"))
  g_law_hand : mg "_law_hand" = some (.ref (He.ga K "_law_hand"))
  g_law_draw : mg "_law_draw" = some (.ref (He.ga K "_law_draw"))
  g_law_tree : mg "_law_tree" = some (.ref (He.ga K "_law_tree"))
  g_law_is_tree : mg "_law_is_tree" = some (.ref (He.ga K "_law_is_tree"))
  g_law_trees : mg "_law_trees" = some (.ref (He.ga K "_law_trees"))
  g_law_view : mg "_law_view" = some (.ref (He.ga K "_law_view"))
  g_law_lots : mg "_law_lots" = some (.ref (He.ga K "_law_lots"))
  g_law_some_lot : mg "_law_some_lot" = some (.ref (He.ga K "_law_some_lot"))
  g_law_left : mg "_law_left" = some (.ref (He.ga K "_law_left"))
  g_law_is_too_much : mg "_law_is_too_much" = some (.ref (He.ga K "_law_is_too_much"))
  g_law : mg "law" = some (.ref (He.ga K "law"))
  gTree : mg "Tree" = some (.ref (He.ga K "Tree"))
  clTree : Cls K (He.ga K "Tree")
  mkTree : Mk K (He.ga K "Tree") (He.ma K (He.ga K "Tree") "__init__")
  gPicture : mg "Picture" = some (.ref (He.ga K "Picture"))
  clPicture : Cls K (He.ga K "Picture")
  mkPicture : Mk K (He.ga K "Picture") (He.ma K (He.ga K "Picture") "__init__")
  gLaid : mg "Laid" = some (.ref (He.ga K "Laid"))
  clLaid : Cls K (He.ga K "Laid")
  mkLaid : Mk K (He.ga K "Laid") (He.ma K (He.ga K "Laid") "__init__")
  naTree_hung : NoAttr K (He.ga K "Tree") "hung"
  naPicture_view : NoAttr K (He.ga K "Picture") "view"
  naPicture_blocks : NoAttr K (He.ga K "Picture") "blocks"
  naPicture_told : NoAttr K (He.ga K "Picture") "told"
  naLaid_blocks : NoAttr K (He.ga K "Laid") "blocks"
  naLaid_ties : NoAttr K (He.ga K "Laid") "ties"
  naLaid_piece : NoAttr K (He.ga K "Laid") "piece"
  naLaid_tops : NoAttr K (He.ga K "Laid") "tops"
  naLaid_lots : NoAttr K (He.ga K "Laid") "lots"
  naLaid_every : NoAttr K (He.ga K "Laid") "every"
  me_many : Meth K (He.ga K "Laid") "many" (He.ma K (He.ga K "Laid") "many")
  me_hung_by : Meth K (He.ga K "Laid") "hung_by" (He.ma K (He.ga K "Laid") "hung_by")
  me_digits : Meth K (He.ga K "Laid") "digits" (He.ma K (He.ga K "Laid") "digits")
  HEAD : ∃ t, mg "HEAD" = some (.int 0 t)
  MOST_BLOCKS : ∃ t, mg "MOST_BLOCKS" = some (.int 40 t)
  MOST_STEPS : ∃ t, mg "MOST_STEPS" = some (.int 4 t)
  n_len : mg "len" = none
  n_all : mg "all" = none
  n_any : mg "any" = none
  n_min : mg "min" = none
  n_sorted : mg "sorted" = none
  n_isinstance : mg "isinstance" = none
  n_abs : mg "abs" = none
  n_range : mg "range" = none
  n_enumerate : mg "enumerate" = none
  n_zip : mg "zip" = none
  n_tuple : mg "tuple" = none
  n_list : mg "list" = none
  n_dict : mg "dict" = none
  n_int : mg "int" = none
  n_bool : mg "bool" = none
theorem txt_mk {K : PySem.W.Frag} {h : Heap} {mg : Str → Option Value} (X : K.In h) (G : h.Ns mainGlobals mg) (c : He.SaysD fa fn K) : Txt K mg where
  f_is_integer := let ⟨fd, F⟩ := c.def_ 0 (d := d_is_integer) rfl; ⟨fd, He5.fun_of F⟩
  f_is_within := let ⟨fd, F⟩ := c.def_ 1 (d := d_is_within) rfl; ⟨fd, He5.fun_of F⟩
  f_is_pair := let ⟨fd, F⟩ := c.def_ 2 (d := d_is_pair) rfl; ⟨fd, He5.fun_of F⟩
  f_is_ascending := let ⟨fd, F⟩ := c.def_ 3 (d := d_is_ascending) rfl; ⟨fd, He5.fun_of F⟩
  f_is_lot := let ⟨fd, F⟩ := c.def_ 4 (d := d_is_lot) rfl; ⟨fd, He5.fun_of F⟩
  f_is_view := let ⟨fd, F⟩ := c.def_ 5 (d := d_is_view) rfl; ⟨fd, He5.fun_of F⟩
  f_check_view := let ⟨fd, F⟩ := c.def_ 6 (d := d_check_view) rfl; ⟨fd, He5.fun_of F⟩
  f_check_lot := let ⟨fd, F⟩ := c.def_ 7 (d := d_check_lot) rfl; ⟨fd, He5.fun_of F⟩
  f_leads_home := let ⟨fd, F⟩ := c.def_ 8 (d := d_leads_home) rfl; ⟨fd, He5.fun_of F⟩
  f_Tree_init := let ⟨fd, F⟩ := c.def_ 9 (d := d_Tree_init) rfl; ⟨fd, He5.fun_of F⟩
  f_parents_in := let ⟨fd, F⟩ := c.def_ 10 (d := d_parents_in) rfl; ⟨fd, He5.fun_of F⟩
  f_hanging := let ⟨fd, F⟩ := c.def_ 11 (d := d_hanging) rfl; ⟨fd, He5.fun_of F⟩
  f_ties_down := let ⟨fd, F⟩ := c.def_ 12 (d := d_ties_down) rfl; ⟨fd, He5.fun_of F⟩
  f_raw_telling := let ⟨fd, F⟩ := c.def_ 13 (d := d_raw_telling) rfl; ⟨fd, He5.fun_of F⟩
  f_raw_distance := let ⟨fd, F⟩ := c.def_ 14 (d := d_raw_distance) rfl; ⟨fd, He5.fun_of F⟩
  f_distance := let ⟨fd, F⟩ := c.def_ 15 (d := d_distance) rfl; ⟨fd, He5.fun_of F⟩
  f_is_tie := let ⟨fd, F⟩ := c.def_ 16 (d := d_is_tie) rfl; ⟨fd, He5.fun_of F⟩
  f_has_form := let ⟨fd, F⟩ := c.def_ 17 (d := d_has_form) rfl; ⟨fd, He5.fun_of F⟩
  f_Picture_init := let ⟨fd, F⟩ := c.def_ 18 (d := d_Picture_init) rfl; ⟨fd, He5.fun_of F⟩
  f_seen := let ⟨fd, F⟩ := c.def_ 19 (d := d_seen) rfl; ⟨fd, He5.fun_of F⟩
  f_does_fit := let ⟨fd, F⟩ := c.def_ 20 (d := d_does_fit) rfl; ⟨fd, He5.fun_of F⟩
  f_told_ties := let ⟨fd, F⟩ := c.def_ 21 (d := d_told_ties) rfl; ⟨fd, He5.fun_of F⟩
  f_ties_known := let ⟨fd, F⟩ := c.def_ 22 (d := d_ties_known) rfl; ⟨fd, He5.fun_of F⟩
  f_way_up := let ⟨fd, F⟩ := c.def_ 23 (d := d_way_up) rfl; ⟨fd, He5.fun_of F⟩
  f_Laid_init := let ⟨fd, F⟩ := c.def_ 24 (d := d_Laid_init) rfl; ⟨fd, He5.fun_of F⟩
  f_Laid_many := let ⟨fd, F⟩ := c.def_ 25 (d := d_Laid_many) rfl; ⟨fd, He5.fun_of F⟩
  f_Laid_hung_by := let ⟨fd, F⟩ := c.def_ 26 (d := d_Laid_hung_by) rfl; ⟨fd, He5.fun_of F⟩
  f_Laid_digits := let ⟨fd, F⟩ := c.def_ 27 (d := d_Laid_digits) rfl; ⟨fd, He5.fun_of F⟩
  f_laid_or_none := let ⟨fd, F⟩ := c.def_ 28 (d := d_laid_or_none) rfl; ⟨fd, He5.fun_of F⟩
  f_laid := let ⟨fd, F⟩ := c.def_ 29 (d := d_laid) rfl; ⟨fd, He5.fun_of F⟩
  f_many_trees := let ⟨fd, F⟩ := c.def_ 30 (d := d_many_trees) rfl; ⟨fd, He5.fun_of F⟩
  f_always := let ⟨fd, F⟩ := c.def_ 31 (d := d_always) rfl; ⟨fd, He5.fun_of F⟩
  f_law_hand := let ⟨fd, F⟩ := c.def_ 32 (d := d_law_hand) rfl; ⟨fd, He5.fun_of F⟩
  f_law_draw := let ⟨fd, F⟩ := c.def_ 33 (d := d_law_draw) rfl; ⟨fd, He5.fun_of F⟩
  f_law_tree := let ⟨fd, F⟩ := c.def_ 34 (d := d_law_tree) rfl; ⟨fd, He5.fun_of F⟩
  f_law_is_tree := let ⟨fd, F⟩ := c.def_ 35 (d := d_law_is_tree) rfl; ⟨fd, He5.fun_of F⟩
  f_law_trees := let ⟨fd, F⟩ := c.def_ 36 (d := d_law_trees) rfl; ⟨fd, He5.fun_of F⟩
  f_law_view := let ⟨fd, F⟩ := c.def_ 37 (d := d_law_view) rfl; ⟨fd, He5.fun_of F⟩
  f_law_lots := let ⟨fd, F⟩ := c.def_ 38 (d := d_law_lots) rfl; ⟨fd, He5.fun_of F⟩
  f_law_some_lot := let ⟨fd, F⟩ := c.def_ 39 (d := d_law_some_lot) rfl; ⟨fd, He5.fun_of F⟩
  f_law_left := let ⟨fd, F⟩ := c.def_ 40 (d := d_law_left) rfl; ⟨fd, He5.fun_of F⟩
  f_law_is_too_much := let ⟨fd, F⟩ := c.def_ 41 (d := d_law_is_too_much) rfl; ⟨fd, He5.fun_of F⟩
  f_law := let ⟨fd, F⟩ := c.def_ 42 (d := d_law) rfl; ⟨fd, He5.fun_of F⟩
  g_is_integer := He.glo_ok X G (c.fact 0 (f := .glo "is_integer") rfl)
  g_is_within := He.glo_ok X G (c.fact 1 (f := .glo "is_within") rfl)
  g_is_pair := He.glo_ok X G (c.fact 2 (f := .glo "is_pair") rfl)
  g_is_ascending := He.glo_ok X G (c.fact 3 (f := .glo "is_ascending") rfl)
  g_is_lot := He.glo_ok X G (c.fact 4 (f := .glo "is_lot") rfl)
  g_is_view := He.glo_ok X G (c.fact 5 (f := .glo "is_view") rfl)
  g_check_view := He.glo_ok X G (c.fact 6 (f := .glo "check_view") rfl)
  g_check_lot := He.glo_ok X G (c.fact 7 (f := .glo "check_lot") rfl)
  g_leads_home := He.glo_ok X G (c.fact 8 (f := .glo "leads_home") rfl)
  g_parents_in := He.glo_ok X G (c.fact 9 (f := .glo "parents_in") rfl)
  g_hanging := He.glo_ok X G (c.fact 10 (f := .glo "hanging") rfl)
  g_ties_down := He.glo_ok X G (c.fact 11 (f := .glo "ties_down") rfl)
  g_raw_telling := He.glo_ok X G (c.fact 12 (f := .glo "raw_telling") rfl)
  g_raw_distance := He.glo_ok X G (c.fact 13 (f := .glo "raw_distance") rfl)
  g_distance := He.glo_ok X G (c.fact 14 (f := .glo "distance") rfl)
  g_is_tie := He.glo_ok X G (c.fact 15 (f := .glo "is_tie") rfl)
  g_has_form := He.glo_ok X G (c.fact 16 (f := .glo "has_form") rfl)
  g_seen := He.glo_ok X G (c.fact 17 (f := .glo "seen") rfl)
  g_does_fit := He.glo_ok X G (c.fact 18 (f := .glo "does_fit") rfl)
  g_told_ties := He.glo_ok X G (c.fact 19 (f := .glo "told_ties") rfl)
  g_ties_known := He.glo_ok X G (c.fact 20 (f := .glo "ties_known") rfl)
  g_way_up := He.glo_ok X G (c.fact 21 (f := .glo "way_up") rfl)
  g_laid_or_none := He.glo_ok X G (c.fact 22 (f := .glo "laid_or_none") rfl)
  g_laid := He.glo_ok X G (c.fact 23 (f := .glo "laid") rfl)
  g_many_trees := He.glo_ok X G (c.fact 24 (f := .glo "many_trees") rfl)
  g_always := He.glo_ok X G (c.fact 25 (f := .glo "always") rfl)
  g_law_hand := He.glo_ok X G (c.fact 26 (f := .glo "_law_hand") rfl)
  g_law_draw := He.glo_ok X G (c.fact 27 (f := .glo "_law_draw") rfl)
  g_law_tree := He.glo_ok X G (c.fact 28 (f := .glo "_law_tree") rfl)
  g_law_is_tree := He.glo_ok X G (c.fact 29 (f := .glo "_law_is_tree") rfl)
  g_law_trees := He.glo_ok X G (c.fact 30 (f := .glo "_law_trees") rfl)
  g_law_view := He.glo_ok X G (c.fact 31 (f := .glo "_law_view") rfl)
  g_law_lots := He.glo_ok X G (c.fact 32 (f := .glo "_law_lots") rfl)
  g_law_some_lot := He.glo_ok X G (c.fact 33 (f := .glo "_law_some_lot") rfl)
  g_law_left := He.glo_ok X G (c.fact 34 (f := .glo "_law_left") rfl)
  g_law_is_too_much := He.glo_ok X G (c.fact 35 (f := .glo "_law_is_too_much") rfl)
  g_law := He.glo_ok X G (c.fact 36 (f := .glo "law") rfl)
  gTree := He.glo_ok X G (c.fact 37 (f := .glo "Tree") rfl)
  clTree := He.cls_ok (c.fact 38 (f := .cls "Tree") rfl)
  mkTree := He.mkr_ok (c.fact 39 (f := .mkr "Tree") rfl)
  gPicture := He.glo_ok X G (c.fact 40 (f := .glo "Picture") rfl)
  clPicture := He.cls_ok (c.fact 41 (f := .cls "Picture") rfl)
  mkPicture := He.mkr_ok (c.fact 42 (f := .mkr "Picture") rfl)
  gLaid := He.glo_ok X G (c.fact 43 (f := .glo "Laid") rfl)
  clLaid := He.cls_ok (c.fact 44 (f := .cls "Laid") rfl)
  mkLaid := He.mkr_ok (c.fact 45 (f := .mkr "Laid") rfl)
  naTree_hung := He.noat_ok (c.fact 46 (f := .noat "Tree" "hung") rfl)
  naPicture_view := He.noat_ok (c.fact 47 (f := .noat "Picture" "view") rfl)
  naPicture_blocks := He.noat_ok (c.fact 48 (f := .noat "Picture" "blocks") rfl)
  naPicture_told := He.noat_ok (c.fact 49 (f := .noat "Picture" "told") rfl)
  naLaid_blocks := He.noat_ok (c.fact 50 (f := .noat "Laid" "blocks") rfl)
  naLaid_ties := He.noat_ok (c.fact 51 (f := .noat "Laid" "ties") rfl)
  naLaid_piece := He.noat_ok (c.fact 52 (f := .noat "Laid" "piece") rfl)
  naLaid_tops := He.noat_ok (c.fact 53 (f := .noat "Laid" "tops") rfl)
  naLaid_lots := He.noat_ok (c.fact 54 (f := .noat "Laid" "lots") rfl)
  naLaid_every := He.noat_ok (c.fact 55 (f := .noat "Laid" "every") rfl)
  me_many := He.meth_ok (c.fact 56 (f := .meth "Laid" "many") rfl)
  me_hung_by := He.meth_ok (c.fact 57 (f := .meth "Laid" "hung_by") rfl)
  me_digits := He.meth_ok (c.fact 58 (f := .meth "Laid" "digits") rfl)
  HEAD := He.int_ok X G (c.fact 59 (f := .int "HEAD" 0) rfl)
  MOST_BLOCKS := He.int_ok X G (c.fact 60 (f := .int "MOST_BLOCKS" 40) rfl)
  MOST_STEPS := He.int_ok X G (c.fact 61 (f := .int "MOST_STEPS" 4) rfl)
  n_len := He.free_ok X G (c.fact 62 (f := .free "len") rfl)
  n_all := He.free_ok X G (c.fact 63 (f := .free "all") rfl)
  n_any := He.free_ok X G (c.fact 64 (f := .free "any") rfl)
  n_min := He.free_ok X G (c.fact 65 (f := .free "min") rfl)
  n_sorted := He.free_ok X G (c.fact 66 (f := .free "sorted") rfl)
  n_isinstance := He.free_ok X G (c.fact 67 (f := .free "isinstance") rfl)
  n_abs := He.free_ok X G (c.fact 68 (f := .free "abs") rfl)
  n_range := He.free_ok X G (c.fact 69 (f := .free "range") rfl)
  n_enumerate := He.free_ok X G (c.fact 70 (f := .free "enumerate") rfl)
  n_zip := He.free_ok X G (c.fact 71 (f := .free "zip") rfl)
  n_tuple := He.free_ok X G (c.fact 72 (f := .free "tuple") rfl)
  n_list := He.free_ok X G (c.fact 73 (f := .free "list") rfl)
  n_dict := He.free_ok X G (c.fact 74 (f := .free "dict") rfl)
  n_int := He.free_ok X G (c.fact 75 (f := .free "int") rfl)
  n_bool := He.free_ok X G (c.fact 76 (f := .free "bool") rfl)
end Fv
end
section
set_option Elab.async false
set_option linter.all false
set_option maxRecDepth 100000
set_option maxHeartbeats 0
namespace Fv
open PySem PySem.Spec PyProof.Rows L2
abbrev R : PySem.W.OpenRow := PySem.W.OpenLaw.row PySem.Challenge.rw_foldervotes_k14_whole_losses_that_are_al
abbrev hk : PySem.W.Hook := He.hookD 5 fa fn
def ob (s : PySem.W.SharedT) : He.AlD := He.obsDG 5 fa fn (HandSHeadRun.getT s)
theorem ob_eq (s : PySem.W.SharedT) : ob s = hk.obs s.abs := He.obsDG_eq (HandSHeadRun.getT_eq s)
def names1 : List PySem.Str := ["_wall", "VoteError", "BadTree", "NoView", "BadPicture", "NoLot", "NoTree", "MOST_BLOCKS", "MOST_STEPS", "is_integer", "is_within", "is_pair", "is_ascending", "is_lot", "is_view", "check_view", "check_lot", "HEAD", "leads_home", "Tree", "parents_in", "hanging", "ties_down", "raw_telling", "raw_distance", "distance", "is_tie", "has_form", "Picture", "seen"]
def names2 : List PySem.Str := ["does_fit", "told_ties", "ties_known", "way_up", "Laid", "laid_or_none", "laid", "many_trees", "always", "_law_hand", "_law_draw", "_law_tree", "_law_row", "_law_is_tree", "_law_trees", "_law_view", "_law_telling", "_law_told", "_law_fits", "_law_lot", "_law_lots", "_law_some_lot", "_law_left", "_law_is_too_much"]
def names : List PySem.Str := names1 ++ names2
theorem run (w : World) : HandSHeadRun.RunEq R (PySem.W.view R.prog [61]) hk ob 6000 names w := by
  intro os
  kernel_rfl
end Fv
end
section
/-! calls by name, further rules, data -/
namespace Fv
open PySem PySem.Spec PyProof.Rows L2 Evl
/-! ### a def, a class, a method that keeps a promise -/
structure Callee (P : Program) (w : World) (K : PySem.W.Frag) (mg : Str → Option Value) (base : Heap) (k : Nat) (x : Str) (ps : List Str) (sp : Sp) : Prop where
  ex : ∃ f fd, FnOk P w K mg base CX0 k f fd ps sp ∧ mg x = some (.ref f) ∧ PySem.W.keepIn K (.ref f) = true ∧ Binds K fd ps []
structure Maker (P : Program) (w : World) (K : PySem.W.Frag) (mg : Str → Option Value) (base : Heap) (k : Nat) (x : Str) (C : Addr) (ps : List Str) (sp : Sp) : Prop where
  ex : ∃ f fd, Mk K C f ∧ FnOk P w K mg base CX0 k f fd ps sp ∧ mg x = some (.ref C) ∧ Binds K fd ps []
structure Methd (P : Program) (w : World) (K : PySem.W.Frag) (mg : Str → Option Value) (base : Heap) (k : Nat) (C : Addr) (m : Str) (ps : List Str) (sp : Sp) : Prop where
  ex : ∃ f fd, Cls K C ∧ Meth K C m f ∧ FnOk P w K mg base CX0 k f fd ps sp ∧ Binds K fd ps []
section
variable {X : Cx} {k : Nat} {x : Str} {ps : List Str} {sp : Sp} {e : Expr} {es : List Expr} {t : TA} {p pos : Pos}
theorem pe_cal (C : Callee X.prog X.w X.K X.mg X.base k x ps sp) (hr : Room k X.A) (hg : Gl X x) (ha : PA X (e :: es) t) (hdb : (x == ("__debug__" : Str)) = false := by decide)
    (he : starEach (e :: es) X.env = (false, eval e X.env) :: starEach es X.env := by rfl) (hpl : (backTo pos (starEach es X.env)).any (·.1) = false := by rfl) : PE X (.Call (.Name x p) (e :: es) [] pos) (tCall sp [] E0 t) := by
  obtain ⟨f, fd, F, hm, hk, hb⟩ := C.ex
  exact pe_call F hr hg hm hk hb .nil pass0 ha hdb he hpl
theorem pe_mk {C : Addr} (M : Maker X.prog X.w X.K X.mg X.base k x C ps sp) (hr : Room (k + 1) X.A) (hg : Gl X x) (ha : PA X (e :: es) t) (hdb : (x == ("__debug__" : Str)) = false := by decide)
    (he : starEach (e :: es) X.env = (false, eval e X.env) :: starEach es X.env := by rfl) (hpl : (backTo pos (starEach es X.env)).any (·.1) = false := by rfl) : PE X (.Call (.Name x p) (e :: es) [] pos) (tMake C sp [] E0 t) := by
  obtain ⟨f, fd, M, F, hm, hb⟩ := M.ex
  exact pe_make M F hr hg hm hb .nil pass0 ha hdb he hpl
theorem pe_meM {C : Addr} {m : Str} {o : Expr} {ta : TE} {apos : Pos} {pl : Sem Bool} (M : Methd X.prog X.w X.K X.mg X.base k C m ps sp) (hr : Room k X.A) (he : PE X o ta) (ha : PA X (e :: es) t)
    (hst : starEach (e :: es) X.env = (false, eval e X.env) :: starEach es X.env := by rfl) (hpl : (backTo pos (starEach es X.env)).any (·.1) = false := by rfl)
    (ht : eval (.Call (.Attribute o m apos) (e :: es) [] pos) X.env = (do
      let ov ← eval o X.env
      standAt apos.atName
      let (f, first) ← holding [ov] (getMethod ov m pl)
      callWith pos f first (backTo pos (starEach (e :: es) X.env)) (backToKw pos (keywordEach [] X.env))) := by rfl) :
    PE X (.Call (.Attribute o m apos) (e :: es) [] pos) (tMeth C m sp [] E0 ta t) := by
  obtain ⟨f, fd, c, hm, F, hb⟩ := M.ex
  exact pe_meth he c hm F hr hb .nil pass0 ha hst hpl ht
theorem pe_meM0 {C : Addr} {m : Str} {o : Expr} {ta : TE} {apos : Pos} {pl : Sem Bool} (M : Methd X.prog X.w X.K X.mg X.base k C m ps sp) (hr : Room k X.A) (he : PE X o ta)
    (ht : eval (.Call (.Attribute o m apos) [] [] pos) X.env = (do
      let ov ← eval o X.env
      standAt apos.atName
      let (f, first) ← holding [ov] (getMethod ov m pl)
      callWith pos f first (backTo pos (starEach [] X.env)) (backToKw pos (keywordEach [] X.env))) := by rfl) :
    PE X (.Call (.Attribute o m apos) [] [] pos) (tMeth C m sp [] E0 ta tNil) := by
  obtain ⟨f, fd, c, hm, F, hb⟩ := M.ex
  exact pe_meth0 he c hm F hr hb .nil pass0 ht
theorem pe_gi {i : Int} (hg : Gl X x) (h : ∃ t, X.mg x = some (.int i t)) (hd : (x == ("__debug__" : Str)) = false := by decide) : PE X (.Name x pos) (tC (.int i)) := by
  obtain ⟨t, h⟩ := h
  exact pe_glob hg h ⟨t, rfl⟩ hd
theorem ip_mul : PIp X .Mult (rI CMul fun i j => .int (i * j)) := iop_mul
theorem m2_setd {o e f : Expr} {m : Str} {apos cpos : Pos} (base : attributeBase o m X.env (eval o X.env) = eval o X.env := by rfl)
    (few : ((backTo cpos (starEach [e, f] X.env)).all (fun x => !x.1) && (backToKw cpos (keywordEach [] X.env)).all (fun x => x.1.isSome)
    && decide (([e, f] : List Expr).length + ([] : List Keyword).length + (if ([] : List Keyword).isEmpty then 0 else 1) < 30)) = true := by rfl)
    (line : (apos.endLine == cpos.line) = true := by rfl) (trees : backTo cpos (starEach [e, f] X.env) = [(false, eval e X.env), (false, eval f X.env)] := by rfl) : M2 X o m apos e f cpos := ⟨base, few, line, trees⟩
end
section
variable {P : Program} {w : World} {K : PySem.W.Frag} {mg : Str → Option Value} {base : Heap} {k : Nat} {x q : Str} {st : Stmt} {f : Addr} {ps : List Str} {sp : Sp}
theorem callee_mk (F : ∃ fd, Fun K x q st f fd) (g : mg x = some (.ref f)) (ok : ∀ fd, Fun K x q st f fd → FnOk P w K mg base CX0 k f fd ps sp)
    (h : ∀ (kV doc pm : Value) (an : Option Addr) (cdv ct : Value) (us : List Value), us.length = ps.length → bindArgs (PySem.W.fnOf x q (defArgs st) (defBody st) (defScope st) .none kV doc pm an cdv ct) ⟨us, []⟩ = pure (ps.zip us)) : Callee P w K mg base k x ps sp := by
  obtain ⟨fd, F⟩ := F
  exact ⟨f, fd, ok fd F, g, F.kp, F.binds h⟩
theorem methd_mk {C : Addr} (F : ∃ fd, Fun K x q st f fd) (c : Cls K C) (m : Meth K C x f) (ok : ∀ fd, Fun K x q st f fd → FnOk P w K mg base CX0 k f fd ps sp)
    (h : ∀ (kV doc pm : Value) (an : Option Addr) (cdv ct : Value) (us : List Value), us.length = ps.length → bindArgs (PySem.W.fnOf x q (defArgs st) (defBody st) (defScope st) .none kV doc pm an cdv ct) ⟨us, []⟩ = pure (ps.zip us)) : Methd P w K mg base k C x ps sp := by
  obtain ⟨fd, F⟩ := F
  exact ⟨f, fd, c, m, ok fd F, F.binds h⟩
theorem maker_mk {C : Addr} {y : Str} (F : ∃ fd, Fun K x q st f fd) (g : mg y = some (.ref C)) (m : Mk K C f) (ok : ∀ fd, Fun K x q st f fd → FnOk P w K mg base CX0 k f fd ps sp)
    (h : ∀ (kV doc pm : Value) (an : Option Addr) (cdv ct : Value) (us : List Value), us.length = ps.length → bindArgs (PySem.W.fnOf x q (defArgs st) (defBody st) (defScope st) .none kV doc pm an cdv ct) ⟨us, []⟩ = pure (ps.zip us)) : Maker P w K mg base k y C ps sp := by
  obtain ⟨fd, F⟩ := F
  exact ⟨f, fd, m, ok fd F, g, F.binds h⟩
end
theorem hu65 {A : Around} {k : Nat} (hr : Room k A) : A.units + 65 < cLine := by have := hr.un; omega
/-! ### list.extend of a tuple -/
theorem ext_tup (l : Addr) (items : Array Value) (n : Nat) (b : Addr) (dd : Option Addr) (sl : Array (Option Value)) (items2 : Array Value) (n2 : Nat) (hs0 : ¬(!items.isEmpty && Builtin.List.listTooLong (items.size + items2.size)) = true) (hs1 : items.size ≤ sizeLine) (hs2 : items.size + items2.size ≤ sizeLine + 1) :
    Meets (Builtin.«list.extend» ⟨[.ref l, .ref b], []⟩) (fun _ R s => s.heap.get? l = some { cls := .type "list", dict := none, data := .seq items n, slots := #[] } ∧ s.heap.get? b = some { cls := .type "tuple", dict := dd, data := .seq items2 n2, slots := sl } ∧ R (.ok (.ret Value.none)) { s with heap := s.heap.update l (Obj.mapSeq fun x => x ++ items2), toks := s.toks }) :=
  .of_wp fun prog w A R s h => by
    obtain ⟨hp, g, d, tk, os⟩ := s; obtain ⟨hl, hb, h⟩ := h; have f1 := AutoSeq1.idx_int; have f2 := AutoSeq1.sub_tuple_tuple; have f3 := AutoSeq1.sub_list_list; have f4 := AutoSeq1.sub_tuple_list; have f5 := AutoSeq1.sub_list_tuple
    have hz' : (items ++ items2).size ≤ sizeLine + 1 := by rw [Array.size_append]; exact hs2
    wp_walk using (wpAny_updateSeq hl rfl (hz := hs1) (_hz' := hz')), AutoSeq1.wpAny_loadPart' hl, AutoSeq1.wpAny_loadPart' hb; exact ⟨_, rfl, h⟩
def rExtendT (K : PySem.W.Frag) : V → List V → Hp → VK → Prop := fun x vs H Q => ∃ l b xs zs, x = .ref l ∧ vs = [.ref b] ∧ H l = some (.lst xs) ∧ SqT K H b zs ∧ xs.length + zs.length ≤ sizeLine ∧ Q .non (upd H l (.lst (xs ++ zs)))
theorem mt_extendT {X : Cx} : MtM X "list.extend" (rExtendT X.K) := by
  intro pins s σ H x vs v us Q I rx rv h
  obtain ⟨l, b, xs, zs, rfl, rfl, hH, hB, hz, q⟩ := h
  cases rx
  obtain ⟨u, rfl, ru⟩ := rv.one
  cases ru
  obtain ⟨z, its, n, r, hl, e⟩ := I.lstM hH
  obtain ⟨its2, r2, ⟨o, e2, hc, n2, hd⟩, hl2⟩ := I.tuple hB
  obtain ⟨oc, od, dt, sl⟩ := o
  dsimp only at hc hd
  subst hc hd
  have z2 := r2.length
  have hsz : its.toArray.size + its2.toArray.size ≤ sizeLine := by rw [List.size_toArray, List.size_toArray]; omega
  have hlong : ¬ (!its.toArray.isEmpty && Builtin.List.listTooLong (its.toArray.size + its2.toArray.size)) = true := by
    rw [notLongL hsz, Bool.and_false]
    exact Bool.false_ne_true
  refine call_meets PySem.F.slot_list_extend ⟨_, e, rfl⟩ PySem.F.entry_list_extend (PySem.F.args_list_extend_2 _ _)
    (ext_tup l its.toArray n b od sl its2.toArray n2 hlong (by rw [List.size_toArray]; omega) (by omega)) ⟨e, e2, ?_⟩
  refine ⟨.non, _, I.lset (its' := its ++ its2) hH e (by simp) (r.append r2) ?_, rfl, q⟩
  rw [List.length_append]
  omega
/-! ### data -/
abbrev VI (n : Nat) : V := .int (n : Int)
abbrev vns (l : List Nat) : List V := l.map VI
theorem vns_at {l : List Nat} {i : Nat} {x : V} (h : (vns l)[i]? = some x) : ∃ n, l[i]? = some n ∧ x = VI n := by
  rw [List.getElem?_map] at h
  cases e : l[i]? with
  | none => rw [e] at h; cases h
  | some n => rw [e] at h; exact ⟨n, rfl, (Option.some.inj h).symm⟩
theorem ty_tup {K : PySem.W.Frag} {H : Hp} {a : Addr} {xs : List V} (h : SqT K H a xs) : TyX K H (.ref a) (.type "tuple") := by
  rcases h with (h | ⟨o, h⟩) | h
  · exact .base (.tup h)
  · exact .fTuple h
  · obtain ⟨o, _, _, e, c, _⟩ := h
    exact .kTuple e c
theorem dp_all {K : PySem.W.Frag} {H : Hp} : ∀ l : List Nat, DpAll K H (vns l) (l.map fun n : Nat => PyData.int (n : Int))
  | [] => .nil
  | n :: r => .cons (.int _) (dp_all r)
/-- all but p stands -/
def ExB (p : Addr) (H H' : Hp) : Prop := ∀ b o, b ≠ p → H b = some o → H' b = some o
end Fv
end
section
/-! comprehensions over anything, by what their items are -/
namespace Fv
open PySem PySem.Spec PyProof.Rows L2 Evl
def del (H : Hp) (D : Addr) : Hp := fun b => if b = D then none else H b
theorem del_ne {H : Hp} {D b : Addr} (h : b ≠ D) : del H D b = H b := by unfold del; rw [if_neg h]
theorem del_same {H : Hp} {D : Addr} : del H D D = none := by unfold del; rw [if_pos rfl]
theorem ex_del {H : Hp} {D : Addr} : Ex (del H D) H := fun b o e => by
  by_cases h : b = D
  · subst h; rw [del_same] at e; cases e
  · rw [del_ne h] at e; exact e
theorem del_mono {H H' : Hp} {D : Addr} (e : Ex H H') : Ex (del H D) (del H' D) := fun b o h => by
  by_cases hb : b = D
  · subst hb; rw [del_same] at h; cases h
  · rw [del_ne hb] at h ⊢; exact e b o h
theorem del_upd {H : Hp} {D : Addr} {o : HO} : del (upd H D o) D = del H D := by
  funext b; unfold del upd; split <;> rfl
theorem del_free {H : Hp} {D : Addr} (h : H D = none) : del H D = H := by
  funext b; unfold del; split
  · rename_i e; rw [e, h]
  · rfl
/-- what stood ahead of D stands without D -/
theorem ex_back {H H' : Hp} {D : Addr} (e : Ex H H') (h : H D = none) : Ex H (del H' D) := fun b o q => by
  rw [del_ne (ne_of_none q h)]; exact e b o q
abbrev Mono (E : V → Hp → Prop) : Prop := ∀ v H H', Ex H H' → E v H → E v H'
theorem paired_mono {α : Type} {E : α → V → Hp → Prop} (hE : ∀ i, Mono (E i)) {H H' : Hp} (e : Ex H H') : ∀ {l : List α} {ys : List V}, Paired (fun i y => E i y H) l ys → Paired (fun i y => E i y H') l ys
  | _, _, .nil => .nil
  | _, _, .cons r t => .cons (hE _ _ _ _ e r) (paired_mono hE e t)
theorem Paired.app {α β : Type} {F : α → β → Prop} : ∀ {a b : List α} {c d : List β}, Paired F a c → Paired F b d → Paired F (a ++ b) (c ++ d)
  | _, _, _, _, .nil, s => s
  | _, _, _, _, .cons r t, s => .cons r (Paired.app t s)
theorem paired_eq {α : Type} {f : α → V} : ∀ {l : List α} {ys : List V}, Paired (fun i y => y = f i) l ys → ys = l.map f
  | _, _, .nil => rfl
  | _, _, .cons r t => by rw [List.map_cons, ← r, ← paired_eq t]
theorem paired_map {α β : Type} {F : β → V → Prop} {f : α → β} : ∀ {l : List α} {ys : List V}, Paired (fun i y => F (f i) y) l ys → Paired F (l.map f) ys
  | _, _, .nil => .nil
  | _, _, .cons r t => .cons r (paired_map t)
theorem paired_imp {α β : Type} {F G : α → β → Prop} : ∀ {l : List α} {ys : List β}, Paired F l ys → (∀ a ∈ l, ∀ b, F a b → G a b) → Paired G l ys
  | _, _, .nil, _ => .nil
  | _, _, .cons r t, h => .cons (h _ (List.mem_cons_self ..) _ r) (paired_imp t fun a ha b => h a (List.mem_cons_of_mem _ ha) b)
theorem range_snoc {n : Nat} {f : Nat → Bool} : (List.range (n + 1)).filter f = (List.range n).filter f ++ (if f n = true then [n] else []) := by
  rw [List.range_succ, List.filter_append]
  congr 1
  by_cases h : f n = true
  · rw [if_pos h, List.filter_cons, if_pos h]; rfl
  · rw [if_neg h, List.filter_cons, if_neg h]; rfl
theorem paired_len {α β : Type} {F : α → β → Prop} : ∀ {l : List α} {ys : List β}, Paired F l ys → l.length = ys.length
  | _, _, .nil => rfl
  | _, _, .cons _ t => by rw [List.length_cons, List.length_cons, paired_len t]
theorem filter_range_len (n : Nat) (f : Nat → Bool) : ((List.range n).filter f).length ≤ n := by
  have h := List.length_filter_le f (List.range n)
  rw [List.length_range] at h
  exact h
theorem lcJ {J : It} {n : Nat} {g : TG} {tt : TT} {te : TE} {vs : List Nat} {σ : L2.St} {H : Hp} {Qd : Addr → Hp → Prop} (f : Nat → Bool) (E : Nat → V → Hp → Prop) (hE : ∀ i, Mono (E i)) (hn : n ≤ 50000)
    (hgo : ∀ i H', Ex H H' → i < n → J.go i H') (hstop : ∀ H', Ex H H' → J.stop n H')
    (turn : ∀ (D : Addr) (i : Nat) (x : V) (H' H'' : Hp), H D = none → Ex H H' → (∃ ys, H' D = some (.lst ys)) → i < n → J.yld i H' x H'' → ∀ (Qy : V → Hp → Prop) (Qn : Hp → Prop),
      (∀ y H4, Ex H' H4 → f i = true → E i y (del H4 D) → Qy y H4) → (∀ H3, f i = false → Ex H' H3 → Qn H3) →
      g x (wipe σ vs) H'' fun σ2 H2 => wipe σ2 vs = wipe σ vs ∧ tt σ2 H2 fun b H3 => if b = true then te σ2 H3 Qy else Qn H3)
    (done : ∀ (D : Addr) (ys : List V) (H2 : Hp), H D = none → Ex H H2 → H2 D = some (.lst ys) → Paired (fun i y => E i y (del H2 D)) ((List.range n).filter f) ys → Qd D H2) :
    ∀ D, H D = none → ∃ W : Nat → Nat → Hp → Prop, (∃ m, W 0 m (upd H D (.lst []))) ∧ ∀ i m H', W i m H' →
      (J.stop i H' ∧ Qd D H') ∨ (J.go i H' ∧ ∃ Nx : Hp → Prop, (∀ H'', Nx H'' → ∃ m', m' < m ∧ W (i + 1) m' H'') ∧ ∀ x H'', J.yld i H' x H'' → g x (wipe σ vs) H'' fun σ2 H2 => wipe σ2 vs = wipe σ vs ∧ tt σ2 H2 fun b H3 =>
        if b = true then te σ2 H3 fun y H4 => ∃ acc, H4 D = some (.lst acc) ∧ acc.length < sizeLine ∧ Nx (upd H4 D (.lst (acc ++ [y]))) else Nx H3) := fun D hD => by
  let Wd : Nat → Hp → Prop := fun i H' => Ex H H' ∧ ∃ ys, H' D = some (.lst ys) ∧ Paired (fun i y => E i y (del H' D)) ((List.range i).filter f) ys
  refine ⟨fun i m H' => m = n - i ∧ i ≤ n ∧ Wd i H', ⟨n, by simp, Nat.zero_le _, Ex.new hD, [], upd_same, .nil⟩, ?_⟩
  rintro i m H' ⟨rfl, hi, e, ys, hy, p⟩
  by_cases hlt : i < n
  · refine .inr ⟨hgo i H' e hlt, Wd (i + 1), fun H'' q => ⟨n - (i + 1), by omega, rfl, hlt, q⟩, fun x H'' hy' => ?_⟩
    refine turn D i x H' H'' hD e ⟨ys, hy⟩ hlt hy' (fun y H4 => ∃ acc, H4 D = some (.lst acc) ∧ acc.length < sizeLine ∧ Wd (i + 1) (upd H4 D (.lst (acc ++ [y])))) (fun H3 => Wd (i + 1) H3) (fun y H4 e4 hf hEy => ?_) (fun H3 hf e3 => ?_)
    · have hl : ys.length ≤ i := by rw [← paired_len p]; exact filter_range_len i f
      refine ⟨ys, e4 D _ hy, Nat.lt_of_le_of_lt (show ys.length ≤ 50000 by omega) (by decide), Ex.mut (e.trans e4) hD, _, upd_same, ?_⟩
      rw [range_snoc, if_pos hf, del_upd]
      exact Paired.app (paired_mono hE (del_mono e4) p) (.cons hEy .nil)
    · refine ⟨e.trans e3, ys, e3 D _ hy, ?_⟩
      rw [range_snoc, if_neg (by rw [hf]; decide), List.append_nil]
      exact paired_mono hE (del_mono e3) p
  · have ei : i = n := by omega
    subst ei
    exact .inl ⟨hstop H' e, done D ys H' hD e hy p⟩
theorem yes_go {p : Prop} {σ : L2.St} {H : Hp} {F G : Hp → Prop} (h1 : p) (h : F H) : p ∧ tYes σ H (fun b H3 => if b = true then F H3 else G H3) := ⟨h1, h⟩
/-- over a list that stands ahead -/
theorem lcL {K : PySem.W.Frag} {a : Addr} {xs : List V} {g : TG} {tt : TT} {te : TE} {vs : List Nat} {σ : L2.St} {H : Hp} {Qd : Addr → Hp → Prop} (hx : SqL K H a xs) (f : Nat → Bool) (E : Nat → V → Hp → Prop) (hE : ∀ i, Mono (E i)) (hn : xs.length ≤ 50000)
    (turn : ∀ (D : Addr) (i : Nat) (x : V) (H' : Hp), H D = none → Ex H H' → (∃ ys, H' D = some (.lst ys)) → xs[i]? = some x → ∀ (Qy : V → Hp → Prop) (Qn : Hp → Prop),
      (∀ y H4, Ex H' H4 → f i = true → E i y (del H4 D) → Qy y H4) → (∀ H3, f i = false → Ex H' H3 → Qn H3) →
      g x (wipe σ vs) H' fun σ2 H2 => wipe σ2 vs = wipe σ vs ∧ tt σ2 H2 fun b H3 => if b = true then te σ2 H3 Qy else Qn H3)
    (done : ∀ (D : Addr) (ys : List V) (H2 : Hp), H D = none → Ex H H2 → H2 D = some (.lst ys) → Paired (fun i y => E i y (del H2 D)) ((List.range xs.length).filter f) ys → Qd D H2) :
    ∀ D, H D = none → ∃ W : Nat → Nat → Hp → Prop, (∃ m, W 0 m (upd H D (.lst []))) ∧ ∀ i m H', W i m H' →
      ((Itl K a).stop i H' ∧ Qd D H') ∨ ((Itl K a).go i H' ∧ ∃ Nx : Hp → Prop, (∀ H'', Nx H'' → ∃ m', m' < m ∧ W (i + 1) m' H'') ∧ ∀ x H'', (Itl K a).yld i H' x H'' → g x (wipe σ vs) H'' fun σ2 H2 => wipe σ2 vs = wipe σ vs ∧ tt σ2 H2 fun b H3 =>
        if b = true then te σ2 H3 fun y H4 => ∃ acc, H4 D = some (.lst acc) ∧ acc.length < sizeLine ∧ Nx (upd H4 D (.lst (acc ++ [y]))) else Nx H3) :=
  lcJ (n := xs.length) (Qd := Qd) f E hE hn (fun i H' e hi => ⟨xs, xs[i], ex_l e hx, by simp [hi]⟩) (fun H' e => ⟨xs, ex_l e hx, Nat.le_refl _⟩)
    (fun D i x H' H'' hD e hl hi hy => by
      obtain ⟨rfl, hx'⟩ := hy
      exact turn D i x H'' hD e hl (hx' _ (ex_l e hx))) done
/-- over a tuple -/
theorem lcT {K : PySem.W.Frag} {a : Addr} {xs : List V} {g : TG} {tt : TT} {te : TE} {vs : List Nat} {σ : L2.St} {H : Hp} {Qd : Addr → Hp → Prop} (hx : SqT K H a xs) (f : Nat → Bool) (E : Nat → V → Hp → Prop) (hE : ∀ i, Mono (E i)) (hn : xs.length ≤ 50000)
    (turn : ∀ (D : Addr) (i : Nat) (x : V) (H' : Hp), H D = none → Ex H H' → (∃ ys, H' D = some (.lst ys)) → xs[i]? = some x → ∀ (Qy : V → Hp → Prop) (Qn : Hp → Prop),
      (∀ y H4, Ex H' H4 → f i = true → E i y (del H4 D) → Qy y H4) → (∀ H3, f i = false → Ex H' H3 → Qn H3) →
      g x (wipe σ vs) H' fun σ2 H2 => wipe σ2 vs = wipe σ vs ∧ tt σ2 H2 fun b H3 => if b = true then te σ2 H3 Qy else Qn H3)
    (done : ∀ (D : Addr) (ys : List V) (H2 : Hp), H D = none → Ex H H2 → H2 D = some (.lst ys) → Paired (fun i y => E i y (del H2 D)) ((List.range xs.length).filter f) ys → Qd D H2) :
    ∀ D, H D = none → ∃ W : Nat → Nat → Hp → Prop, (∃ m, W 0 m (upd H D (.lst []))) ∧ ∀ i m H', W i m H' →
      ((Itt K a).stop i H' ∧ Qd D H') ∨ ((Itt K a).go i H' ∧ ∃ Nx : Hp → Prop, (∀ H'', Nx H'' → ∃ m', m' < m ∧ W (i + 1) m' H'') ∧ ∀ x H'', (Itt K a).yld i H' x H'' → g x (wipe σ vs) H'' fun σ2 H2 => wipe σ2 vs = wipe σ vs ∧ tt σ2 H2 fun b H3 =>
        if b = true then te σ2 H3 fun y H4 => ∃ acc, H4 D = some (.lst acc) ∧ acc.length < sizeLine ∧ Nx (upd H4 D (.lst (acc ++ [y]))) else Nx H3) :=
  lcJ (n := xs.length) (Qd := Qd) f E hE hn (fun i H' e hi => ⟨xs, xs[i], ex_t e hx, by simp [hi]⟩) (fun H' e => ⟨xs, ex_t e hx, Nat.le_refl _⟩)
    (fun D i x H' H'' hD e hl hi hy => by
      obtain ⟨rfl, hx'⟩ := hy
      exact turn D i x H'' hD e hl (hx' _ (ex_t e hx))) done
/-- over lo, lo + 1, .. -/
theorem lcR {lo : Int} {n : Nat} {g : TG} {tt : TT} {te : TE} {vs : List Nat} {σ : L2.St} {H : Hp} {Qd : Addr → Hp → Prop} (f : Nat → Bool) (E : Nat → V → Hp → Prop) (hE : ∀ i, Mono (E i)) (hn : n ≤ 50000)
    (turn : ∀ (D : Addr) (i : Nat) (H' : Hp), H D = none → Ex H H' → (∃ ys, H' D = some (.lst ys)) → i < n → ∀ (Qy : V → Hp → Prop) (Qn : Hp → Prop),
      (∀ y H4, Ex H' H4 → f i = true → E i y (del H4 D) → Qy y H4) → (∀ H3, f i = false → Ex H' H3 → Qn H3) →
      g (.int (lo + (i : Nat))) (wipe σ vs) H' fun σ2 H2 => wipe σ2 vs = wipe σ vs ∧ tt σ2 H2 fun b H3 => if b = true then te σ2 H3 Qy else Qn H3)
    (done : ∀ (D : Addr) (ys : List V) (H2 : Hp), H D = none → Ex H H2 → H2 D = some (.lst ys) → Paired (fun i y => E i y (del H2 D)) ((List.range n).filter f) ys → Qd D H2) :
    ∀ D, H D = none → ∃ W : Nat → Nat → Hp → Prop, (∃ m, W 0 m (upd H D (.lst []))) ∧ ∀ i m H', W i m H' →
      ((Itr lo n).stop i H' ∧ Qd D H') ∨ ((Itr lo n).go i H' ∧ ∃ Nx : Hp → Prop, (∀ H'', Nx H'' → ∃ m', m' < m ∧ W (i + 1) m' H'') ∧ ∀ x H'', (Itr lo n).yld i H' x H'' → g x (wipe σ vs) H'' fun σ2 H2 => wipe σ2 vs = wipe σ vs ∧ tt σ2 H2 fun b H3 =>
        if b = true then te σ2 H3 fun y H4 => ∃ acc, H4 D = some (.lst acc) ∧ acc.length < sizeLine ∧ Nx (upd H4 D (.lst (acc ++ [y]))) else Nx H3) :=
  lcJ (n := n) (Qd := Qd) f E hE hn (fun i H' e hi => hi) (fun H' e => Nat.le_refl _)
    (fun D i x H' H'' hD e hl hi hy => by
      obtain ⟨rfl, rfl⟩ := hy
      exact turn D i H'' hD e hl hi) done
theorem putK_le (kvs : List (Key × V)) (k : Key) (v : V) : (putK kvs k v).length ≤ kvs.length + 1 := by
  unfold putK
  split
  · rw [List.length_map]; omega
  · rw [List.length_append]; exact Nat.le_refl _
/-- a dict by a comprehension without a test: keys that are ints -/
theorem dcJ {J : It} {n : Nat} {g : TG} {tk tv : TE} {vs : List Nat} {σ : L2.St} {H : Hp} {Qd : Addr → Hp → Prop} (kf : Nat → Int) (E : Nat → V → Hp → Prop) (hE : ∀ i, Mono (E i)) (hn : n ≤ 50000) 
    (hgo : ∀ i H', Ex H H' → i < n → J.go i H') (hstop : ∀ H', Ex H H' → J.stop n H')
    (turn : ∀ (D : Addr) (i : Nat) (x : V) (H' H'' : Hp), H D = none → Ex H H' → (∃ ys, H' D = some (.dK ys)) → i < n → J.yld i H' x H'' → ∀ (Qy : V → V → Hp → Prop),
      (∀ y H4, Ex H' H4 → E i y (del H4 D) → Qy (.int (kf i)) y H4) →
      g x (wipe σ vs) H'' fun σ2 H2 => wipe σ2 vs = wipe σ vs ∧ tk σ2 H2 fun y H4 => tv σ2 H4 fun z H5 => Qy y z H5)
    (done : ∀ (D : Addr) (kvs : List (Key × V)) (ys : List V) (H2 : Hp), H D = none → Ex H H2 → H2 D = some (.dK kvs) → kvs = mergeK [] (((List.range n).map fun i => (Sum.inl (kf i) : Key)).zip ys) → Paired (fun i y => E i y (del H2 D)) (List.range n) ys → kvs.length ≤ n → Qd D H2) :
    ∀ D, H D = none → ∃ W : Nat → Nat → Hp → Prop, (∃ m, W 0 m (upd H D (.dK []))) ∧ ∀ i m H', W i m H' →
      (J.stop i H' ∧ Qd D H') ∨ (J.go i H' ∧ ∃ Nx : Hp → Prop, (∀ H'', Nx H'' → ∃ m', m' < m ∧ W (i + 1) m' H'') ∧ ∀ x H'', J.yld i H' x H'' → g x (wipe σ vs) H'' fun σ2 H2 => wipe σ2 vs = wipe σ vs ∧ tYes σ2 H2 fun b H3 =>
        if b = true then tk σ2 H3 fun y H4 => tv σ2 H4 fun z H5 => ∃ kvs k, y = kV k ∧ H5 D = some (.dK kvs) ∧ kvs.length < sizeLine ∧ Nx (upd H5 D (.dK (putK kvs k z))) else Nx H3) := fun D hD => by
  let Wd : Nat → Hp → Prop := fun i H' => Ex H H' ∧ ∃ (kvs : List (Key × V)) (ys : List V), H' D = some (.dK kvs) ∧ kvs = mergeK [] (((List.range i).map fun i => (Sum.inl (kf i) : Key)).zip ys) ∧ Paired (fun i y => E i y (del H' D)) (List.range i) ys ∧ kvs.length ≤ i
  refine ⟨fun i m H' => m = n - i ∧ i ≤ n ∧ Wd i H', ⟨n, by simp, Nat.zero_le _, Ex.new hD, [], [], upd_same, rfl, .nil, Nat.le_refl _⟩, ?_⟩
  rintro i m H' ⟨rfl, hi, e, kvs, ys, hy, hk, p, hl⟩
  by_cases hlt : i < n
  · refine .inr ⟨hgo i H' e hlt, Wd (i + 1), fun H'' q => ⟨n - (i + 1), by omega, rfl, hlt, q⟩, fun x H'' hy' => ?_⟩
    refine turn D i x H' H'' hD e ⟨kvs, hy⟩ hlt hy' (fun y z H5 => ∃ kvs k, y = kV k ∧ H5 D = some (.dK kvs) ∧ kvs.length < sizeLine ∧ Wd (i + 1) (upd H5 D (.dK (putK kvs k z)))) (fun y H4 e4 hEy => ?_)
    have hly : (List.range i).length = ys.length := paired_len p
    refine ⟨kvs, Sum.inl (kf i), rfl, e4 D _ hy, Nat.lt_of_le_of_lt (show kvs.length ≤ 50000 by omega) (by decide), Ex.mut (e.trans e4) hD, _, ys ++ [y], upd_same, ?_, ?_, ?_⟩
    · rw [List.range_succ, List.map_append, List.zip_append (by rw [List.length_map]; exact hly)]
      rw [hk]
      unfold mergeK
      rw [List.foldl_append]
      rfl
    · rw [List.range_succ, del_upd]
      exact Paired.app (paired_mono hE (del_mono e4) p) (.cons hEy .nil)
    · have := putK_le kvs (Sum.inl (kf i)) y
      omega
  · have ei : i = n := by omega
    subst ei
    exact .inl ⟨hstop H' e, done D kvs ys H' hD e hy hk p hl⟩
/-! ### rules whose reading names K itself (within comprehensions) -/
section
variable {X : Cx} (K : PySem.W.Frag)
theorem op_ltT_K (hu : X.A.units < cLine) (hK : X.K = K := by rfl) : OpR X (compareOp .Lt) (rLtT K) := hK ▸ op_ltT hu
theorem op_eqD_K (hu : X.A.units + 64 < cLine) (hK : X.K = K := by rfl) : OpR X (compareOp .Eq) (rEqD K) := hK ▸ op_eqD hu
theorem op_in_seq_K (hK : X.K = K := by rfl) : OpR X (compareOp .In) (rIn K false) := hK ▸ op_in_seq
theorem op_notIn_seq_K (hK : X.K = K := by rfl) : OpR X (compareOp .NotIn) (rIn K true) := hK ▸ op_notIn_seq
theorem op_catA_K (hK : X.K = K := by rfl) : OpR X (binaryOp .Add) (rCatA K) := hK ▸ op_catA
theorem ix_tup_K (hK : X.K = K := by rfl) : IxR X (rIxT K) := hK ▸ ix_tup
theorem ix_list_K (hK : X.K = K := by rfl) : IxR X (rIxL K) := hK ▸ ix_list
theorem sl_list_K (hK : X.K = K := by rfl) : L2.SlR X (rSlL K) := hK ▸ sl_list
theorem sl_tupA_K (hK : X.K = K := by rfl) : L2.SlR X (rSlA K) := hK ▸ sl_tupA
theorem cr_any_K (hc : X.calm = true) (hK : X.K = K := by rfl) : CallR X (.builtin "any") (rAny K) := hK ▸ cr_any hc
theorem cr_all_K (hc : X.calm = true) (hK : X.K = K := by rfl) : CallR X (.builtin "all") (rAll K) := hK ▸ cr_all hc
def rLenQ (K : PySem.W.Frag) : List V → Hp → VK → Prop := fun xs H Q => ∃ p ys, xs = [.ref p] ∧ (SqL K H p ys ∨ SqT K H p ys) ∧ Q (.int ys.length) H
theorem call_len_seq_K (hK : X.K = K := by rfl) : CallR X (.builtin "len") (rLenQ K) := hK ▸ call_len_seq
def rTupQ (K : PySem.W.Frag) : List V → Hp → VK → Prop := fun xs H Q => ∃ p ys, xs = [.ref p] ∧ ((SqL K H p ys ∧ ∀ l, H l = none → Q (.ref l) (upd H l (.tup ys))) ∨ (SqT K H p ys ∧ Q (.ref p) H))
theorem call_tuple_of_K (hK : X.K = K := by rfl) : CallR X (.type "tuple") (rTupQ K) := hK ▸ call_tuple_of
theorem pi_list_K {tg l : Expr} {tl : TE} (hl : PE X l tl) (hK : X.K = K := by rfl) : PI X tg l (iList K tl) := hK ▸ pi_list hl
theorem pi_tup_K {tg l : Expr} {tl : TE} (hl : PE X l tl) (hK : X.K = K := by rfl) : PI X tg l (iTup K tl) := hK ▸ pi_tup hl
theorem pe_fld_K {e : Expr} {f : Str} {pos : Pos} {ta : TE} (he : PE X e ta) (hb : attributeBase e f X.env (eval e X.env) = eval e X.env) (hK : X.K = K := by rfl) : PE X (.Attribute e f pos) (tFld K ta f) := hK ▸ pe_fld he hb
end
theorem lock_ex {H H' : Hp} {d : Addr} {u : HO} {od : Obj} (h : H d = some u) (e : Ex (upd H d (.frz od u)) H') : Ex H (upd H' d u) := fun b o q => by
  by_cases hb : b = d
  · subst hb; rw [h] at q; rw [upd_same]; exact q
  · rw [upd_ne hb]; exact e b o (by rw [upd_ne hb]; exact q)
end Fv
end
section
/-! the mirror: what the program reckons, in plain Lean -/
namespace Fv
/-- the place under which b hangs; 0 for the head -/
def par (hs : List Nat) (b : Nat) : Nat := if b = 0 then 0 else hs.getD (b - 1) 0
def up (hs : List Nat) : Nat → Nat → Nat
  | 0, b => b
  | k + 1, b => up hs k (par hs b)
structure TreeOk (hs : List Nat) : Prop where
  n1 : 1 ≤ hs.length
  n40 : hs.length ≤ 40
  le : ∀ b, par hs b ≤ hs.length
  home : ∀ b, b ≤ hs.length → up hs hs.length b = 0
def treeB (hs : List Nat) : Bool := decide (1 ≤ hs.length) && (decide (hs.length ≤ 40) && (hs.all (fun x => decide (x ≤ hs.length)) && (List.range (hs.length + 1)).all fun b => decide (up hs hs.length b = 0)))
theorem par0 (hs : List Nat) : par hs 0 = 0 := rfl
theorem up0 (hs : List Nat) : ∀ k, up hs k 0 = 0
  | 0 => rfl
  | k + 1 => up0 hs k
theorem up_add (hs : List Nat) : ∀ i j b, up hs (i + j) b = up hs j (up hs i b)
  | 0, j, b => by rw [Nat.zero_add]; rfl
  | i + 1, j, b => by rw [Nat.add_right_comm]; exact up_add hs i j (par hs b)
theorem up_succ (hs : List Nat) (k b : Nat) : up hs (k + 1) b = par hs (up hs k b) := up_add hs k 1 b
theorem par_at {hs : List Nat} {i : Nat} (h : i < hs.length) : par hs (i + 1) = hs[i] := by
  unfold par
  rw [if_neg (Nat.succ_ne_zero i), Nat.add_sub_cancel, List.getD_eq_getElem?_getD, List.getElem?_eq_getElem h]
  rfl
theorem par_out {hs : List Nat} {b : Nat} (h : hs.length < b) : par hs b = 0 := by
  unfold par
  split
  · rfl
  · rw [List.getD_eq_getElem?_getD, List.getElem?_eq_none (by omega)]; rfl
theorem treeB_ok {hs : List Nat} (h : treeB hs = true) : TreeOk hs := by
  unfold treeB at h
  simp only [Bool.and_eq_true, decide_eq_true_eq, List.all_eq_true, List.mem_range] at h
  obtain ⟨h1, h2, h3, h4⟩ := h
  refine ⟨h1, h2, fun b => ?_, fun b hb => h4 b (by omega)⟩
  by_cases hb : hs.length < b
  · rw [par_out hb]; exact Nat.zero_le _
  · cases b with
    | zero => exact Nat.zero_le _
    | succ i =>
      rw [par_at (show i < hs.length by omega)]
      exact h3 _ (List.getElem_mem _)
section
variable {hs : List Nat}
theorem TreeOk.up_le (T : TreeOk hs) {b : Nat} (h : b ≤ hs.length) : ∀ k, up hs k b ≤ hs.length
  | 0 => h
  | k + 1 => by rw [up_succ]; exact T.le _
theorem up_ge {b k j : Nat} (h : up hs k b = 0) (hj : k ≤ j) : up hs j b = 0 := by
  obtain ⟨i, rfl⟩ := Nat.le.dest hj
  rw [up_add, h, up0]
/-- no ring -/
theorem cyc {b k : Nat} (h : up hs (k + 1) b = b) : ∀ m, up hs (m * (k + 1)) b = b
  | 0 => by rw [Nat.zero_mul]; rfl
  | m + 1 => by rw [Nat.succ_mul, up_add, cyc h m, h]
theorem TreeOk.nocyc (T : TreeOk hs) {b k : Nat} (hb : b ≤ hs.length) (h : up hs (k + 1) b = b) : b = 0 := by
  have h1 := cyc h hs.length
  have h2 := up_ge (T.home b hb) (show hs.length ≤ hs.length * (k + 1) from Nat.le_mul_of_pos_right _ (Nat.succ_pos k))
  exact h1.symm.trans h2
end
/-! ### rows -/
def chain (hs : List Nat) : Nat → Nat → List Nat
  | 0, _ => []
  | f + 1, p => if p = 0 then [] else par hs p :: chain hs f (par hs p)
def chainF (hs : List Nat) (p : Nat) : List Nat := chain hs hs.length p
theorem chain_zero (hs : List Nat) : ∀ f, chain hs f 0 = []
  | 0 => rfl
  | f + 1 => by unfold chain; rw [if_pos rfl]
theorem chain_len (hs : List Nat) : ∀ f p, (chain hs f p).length ≤ f
  | 0, _ => Nat.le_refl _
  | f + 1, p => by
    unfold chain
    split
    · exact Nat.zero_le _
    · exact Nat.succ_le_succ (chain_len hs f _)
theorem chain_at (hs : List Nat) : ∀ f p i x, (chain hs f p)[i]? = some x → x = up hs (i + 1) p ∧ up hs i p ≠ 0
  | 0, p, i, x, h => by cases h
  | f + 1, p, i, x, h => by
    unfold chain at h
    split at h
    · cases h
    · rename_i hp
      cases i with
      | zero => exact ⟨(Option.some.inj h).symm, hp⟩
      | succ i => exact chain_at hs f (par hs p) i x h
theorem chain_get (hs : List Nat) : ∀ f p i, i < f → up hs i p ≠ 0 → (chain hs f p)[i]? = some (up hs (i + 1) p)
  | 0, p, i, h, _ => by omega
  | f + 1, p, i, h, hu => by
    unfold chain
    have hp : p ≠ 0 := fun z => hu (by rw [z]; exact up0 hs i)
    rw [if_neg hp]
    cases i with
    | zero => rfl
    | succ i => exact chain_get hs f (par hs p) i (by omega) hu
/-! ### what hangs under a place -/
def hangF (hs : List Nat) (p : Nat) : List Nat := ((List.range hs.length).filter fun i => decide (par hs (i + 1) = p)).map fun i => i + 1
theorem mem_hangF {hs : List Nat} {p b : Nat} : b ∈ hangF hs p ↔ 1 ≤ b ∧ b ≤ hs.length ∧ par hs b = p := by
  unfold hangF
  simp only [List.mem_map, List.mem_filter, List.mem_range, decide_eq_true_eq]
  constructor
  · rintro ⟨i, ⟨h1, h2⟩, rfl⟩; exact ⟨by omega, by omega, h2⟩
  · rintro ⟨h1, h2, h3⟩; exact ⟨b - 1, ⟨by omega, by rw [show b - 1 + 1 = b by omega]; exact h3⟩, by omega⟩
theorem map_nodup {α β : Type} {f : α → β} (hf : ∀ a b, f a = f b → a = b) : ∀ {l : List α}, l.Nodup → (l.map f).Nodup
  | [], _ => List.nodup_nil
  | a :: r, h => by
    obtain ⟨h1, h2⟩ := List.nodup_cons.mp h
    rw [List.map_cons]
    refine List.nodup_cons.mpr ⟨fun m => ?_, map_nodup hf h2⟩
    obtain ⟨b, hb, e⟩ := List.mem_map.mp m
    exact h1 (by rw [← hf _ _ e]; exact hb)
theorem hangF_nodup (hs : List Nat) (p : Nat) : (hangF hs p).Nodup := map_nodup (fun a b e => by omega) (List.Pairwise.filter _ List.nodup_range)
theorem hangF_len (hs : List Nat) (p : Nat) : (hangF hs p).length ≤ hs.length := by
  unfold hangF; rw [List.length_map]; exact filter_range_len _ _
/-! ### ties down -/
def nextL (hs : List Nat) (l : List Nat) : List (Nat × Nat) := l.flatMap fun h => (hangF hs h).map fun b => (b, h)
def layerAt (hs : List Nat) (p : Nat) : Nat → List Nat
  | 0 => [p]
  | i + 1 => (nextL hs (layerAt hs p i)).map (·.1)
def foundAt (hs : List Nat) (p : Nat) : Nat → List (Nat × Nat)
  | 0 => []
  | i + 1 => foundAt hs p i ++ nextL hs (layerAt hs p i)
def ben (hs : List Nat) (s p b : Nat) : Bool := (List.range s).any fun k => decide (up hs (k + 1) b = p)
def tiesC (hs : List Nat) (s p : Nat) : List (Nat × Nat) := ((List.range hs.length).filter fun i => ben hs s p (i + 1)).map fun i => (i + 1, par hs (i + 1))
theorem mem_nextL {hs l : List Nat} {q : Nat × Nat} : q ∈ nextL hs l ↔ q.2 ∈ l ∧ 1 ≤ q.1 ∧ q.1 ≤ hs.length ∧ par hs q.1 = q.2 := by
  obtain ⟨b, h⟩ := q
  unfold nextL
  simp only [List.mem_flatMap, List.mem_map, mem_hangF, Prod.mk.injEq]
  constructor
  · rintro ⟨x, hx, y, ⟨h1, h2, h3⟩, rfl, rfl⟩; exact ⟨hx, h1, h2, h3⟩
  · rintro ⟨h0, h1, h2, h3⟩; exact ⟨h, h0, b, ⟨h1, h2, h3⟩, rfl, rfl⟩
/-- b is in the i-th layer -/
def InL (hs : List Nat) (p i b : Nat) : Prop := up hs i b = p ∧ (∀ j, j < i → up hs j b ≠ 0) ∧ (0 < i → 1 ≤ b ∧ b ≤ hs.length)
theorem mem_layer {hs : List Nat} {p : Nat} : ∀ {i b : Nat}, (hb : b ≤ hs.length) → TreeOk hs → (b ∈ layerAt hs p i ↔ InL hs p i b)
  | 0, b, hb, T => by
    show b ∈ [p] ↔ _
    rw [List.mem_singleton]
    exact ⟨fun e => ⟨e, fun j hj => by omega, fun z => by omega⟩, fun h => h.1⟩
  | i + 1, b, hb, T => by
    show b ∈ (nextL hs (layerAt hs p i)).map (·.1) ↔ _
    rw [List.mem_map]
    constructor
    · rintro ⟨⟨x, h⟩, hq, rfl⟩
      obtain ⟨h0, h1, h2, h3⟩ := mem_nextL.mp hq
      dsimp only at h0 h1 h2 h3 hb ⊢
      rw [← h3] at h0
      obtain ⟨a1, a2, a3⟩ := (mem_layer (T.le x) T).mp h0
      refine ⟨a1, fun j hj => ?_, fun _ => ⟨h1, h2⟩⟩
      cases j with
      | zero => intro z; have z : x = 0 := z; omega
      | succ j => exact a2 j (by omega)
    · rintro ⟨a1, a2, a3⟩
      obtain ⟨b1, b2⟩ := a3 (Nat.succ_pos i)
      refine ⟨(b, par hs b), mem_nextL.mpr ⟨(mem_layer (T.le b) T).mpr ⟨a1, fun j hj => a2 (j + 1) (by omega), fun hi => ?_⟩, b1, b2, rfl⟩, rfl⟩
      have := a2 1 (by omega)
      exact ⟨Nat.one_le_iff_ne_zero.mpr this, T.le b⟩
theorem layer_le {hs : List Nat} {p : Nat} (hp : p ≤ hs.length) : ∀ {i b : Nat}, b ∈ layerAt hs p i → b ≤ hs.length
  | 0, b, h => by have h : b ∈ [p] := h; rw [List.mem_singleton] at h; omega
  | i + 1, b, h => by
    have h : b ∈ (nextL hs (layerAt hs p i)).map (·.1) := h
    obtain ⟨q, hq, rfl⟩ := List.mem_map.mp h
    exact (mem_nextL.mp hq).2.2.1
/-- a layer has no block twice, nor have two -/
theorem InL.uniq {hs : List Nat} {p i j b : Nat} (T : TreeOk hs) (hb : b ≤ hs.length) (h : InL hs p i b) (h' : InL hs p j b) (hij : i < j) : False := by
  obtain ⟨a1, a2, a3⟩ := h
  obtain ⟨b1, b2, b3⟩ := h'
  obtain ⟨k, rfl⟩ : ∃ k, j = i + (k + 1) := ⟨j - i - 1, by omega⟩
  rw [up_add, a1] at b1
  have hp : p = 0 := T.nocyc (a1 ▸ T.up_le hb i) b1
  exact b2 i (by omega) (a1.trans hp)
theorem nextL_nodup {hs : List Nat} : ∀ {l : List Nat}, l.Nodup → ((nextL hs l).map (·.1)).Nodup
  | [], _ => List.nodup_nil
  | h :: r, hn => by
    obtain ⟨h1, h2⟩ := List.nodup_cons.mp hn
    show (((hangF hs h).map fun b => (b, h)) ++ nextL hs r).map (·.1) |>.Nodup
    rw [List.map_append, List.map_map, List.nodup_append]
    refine ⟨map_nodup (fun a b e => e) (hangF_nodup hs h), nextL_nodup h2, ?_⟩
    intro a ha b hb e
    subst e
    obtain ⟨x, hx, ex⟩ := List.mem_map.mp ha
    have ex : x = a := ex
    subst ex
    obtain ⟨q, hq, eq⟩ := List.mem_map.mp hb
    obtain ⟨q0, q1, q2, q3⟩ := mem_nextL.mp hq
    rw [eq] at q3
    have := (mem_hangF.mp hx).2.2
    rw [this] at q3
    exact h1 (q3 ▸ q0)
theorem layer_nodup {hs : List Nat} {p : Nat} : ∀ i, (layerAt hs p i).Nodup
  | 0 => by show [p].Nodup; simp
  | i + 1 => nextL_nodup (layer_nodup i)
theorem mem_found {hs : List Nat} {p : Nat} : ∀ {s : Nat} {q : Nat × Nat}, q ∈ foundAt hs p s ↔ ∃ i, i < s ∧ q ∈ nextL hs (layerAt hs p i)
  | 0, q => ⟨fun h => (by cases h), fun ⟨i, h, _⟩ => (by omega)⟩
  | s + 1, q => by
    show q ∈ foundAt hs p s ++ nextL hs (layerAt hs p s) ↔ _
    rw [List.mem_append, mem_found]
    constructor
    · rintro (⟨i, h1, h2⟩ | h)
      · exact ⟨i, by omega, h2⟩
      · exact ⟨s, by omega, h⟩
    · rintro ⟨i, h1, h2⟩
      by_cases e : i = s
      · subst e; exact .inr h2
      · exact .inl ⟨i, by omega, h2⟩
theorem found_layer {hs : List Nat} {p s : Nat} {q : Nat × Nat} (h : q ∈ nextL hs (layerAt hs p s)) : q.1 ∈ layerAt hs p (s + 1) := List.mem_map.mpr ⟨q, h, rfl⟩
theorem found_nodup {hs : List Nat} {p : Nat} (T : TreeOk hs) (hp : p ≤ hs.length) : ∀ s, ((foundAt hs p s).map (·.1)).Nodup
  | 0 => List.nodup_nil
  | s + 1 => by
    show ((foundAt hs p s ++ nextL hs (layerAt hs p s)).map (·.1)).Nodup
    rw [List.map_append, List.nodup_append]
    refine ⟨found_nodup T hp s, layer_nodup (s + 1), ?_⟩
    intro a ha b hb e
    subst e
    obtain ⟨q, hq, rfl⟩ := List.mem_map.mp ha
    obtain ⟨i, hi, hqi⟩ := mem_found.mp hq
    have hle : q.1 ≤ hs.length := layer_le hp (found_layer hqi)
    exact InL.uniq T hle ((mem_layer hle T).mp (found_layer hqi)) ((mem_layer (i := s + 1) hle T).mp hb) (by omega)
theorem mem_tiesC {hs : List Nat} {s p : Nat} {q : Nat × Nat} : q ∈ tiesC hs s p ↔ 1 ≤ q.1 ∧ q.1 ≤ hs.length ∧ q.2 = par hs q.1 ∧ ben hs s p q.1 = true := by
  obtain ⟨b, h⟩ := q
  unfold tiesC
  simp only [List.mem_map, List.mem_filter, List.mem_range, Prod.mk.injEq]
  constructor
  · rintro ⟨i, ⟨h1, h2⟩, rfl, rfl⟩; exact ⟨by omega, by omega, rfl, h2⟩
  · rintro ⟨h1, h2, h3, h4⟩; exact ⟨b - 1, ⟨by omega, by rw [show b - 1 + 1 = b by omega]; exact h4⟩, by omega, by rw [show b - 1 + 1 = b by omega]; exact h3.symm⟩
theorem ben_iff {hs : List Nat} {s p b : Nat} : ben hs s p b = true ↔ ∃ k, k < s ∧ up hs (k + 1) b = p := by
  unfold ben
  simp only [List.any_eq_true, List.mem_range, decide_eq_true_eq]
/-- the least way -/
theorem least_up {hs : List Nat} {b : Nat} : ∀ {k : Nat}, up hs k b = 0 → ∃ i, i ≤ k ∧ up hs i b = 0 ∧ ∀ j, j < i → up hs j b ≠ 0
  | 0, h => ⟨0, Nat.le_refl _, h, fun j hj => by omega⟩
  | k + 1, h => by
    by_cases hk : up hs k b = 0
    · obtain ⟨i, h1, h2, h3⟩ := least_up hk
      exact ⟨i, by omega, h2, h3⟩
    · refine ⟨k + 1, Nat.le_refl _, h, fun j hj z => hk (up_ge z (by omega))⟩
theorem found_ties {hs : List Nat} {p : Nat} (T : TreeOk hs) (hp : p ≤ hs.length) (s : Nat) (q : Nat × Nat) : q ∈ foundAt hs p s ↔ q ∈ tiesC hs s p := by
  rw [mem_found, mem_tiesC, ben_iff]
  constructor
  · rintro ⟨i, hi, hq⟩
    obtain ⟨q0, q1, q2, q3⟩ := mem_nextL.mp hq
    obtain ⟨a1, _, _⟩ := (mem_layer q2 T).mp (found_layer hq)
    exact ⟨q1, q2, q3.symm, i, hi, a1⟩
  · rintro ⟨q1, q2, q3, k, hk, hu⟩
    by_cases hp0 : p = 0
    · subst hp0
      obtain ⟨i, i1, i2, i3⟩ := least_up hu
      obtain ⟨j, rfl⟩ : ∃ j, i = j + 1 := by
        cases i with
        | zero => have i2 : q.1 = 0 := i2; omega
        | succ j => exact ⟨j, rfl⟩
      refine ⟨j, by omega, mem_nextL.mpr ⟨?_, q1, q2, q3.symm⟩⟩
      rw [q3]
      refine (mem_layer (T.le _) T).mpr ⟨i2, fun m hm => i3 (m + 1) (by omega), fun hj => ?_⟩
      have := i3 1 (by omega)
      exact ⟨Nat.one_le_iff_ne_zero.mpr this, T.le _⟩
    · refine ⟨k, hk, mem_nextL.mpr ⟨?_, q1, q2, q3.symm⟩⟩
      rw [q3]
      refine (mem_layer (T.le _) T).mpr ⟨hu, fun m hm z => hp0 ?_, fun hk => ?_⟩
      · have e : up hs k (par hs q.1) = p := hu
        rw [← e]; exact up_ge z (by omega)
      · refine ⟨Nat.one_le_iff_ne_zero.mpr fun z => hp0 ?_, T.le _⟩
        have e : up hs k (par hs q.1) = p := hu
        rw [z, up0] at e; exact e.symm
theorem tiesC_sorted (hs : List Nat) (s p : Nat) : (tiesC hs s p).Pairwise fun a b => a.1 < b.1 := by
  unfold tiesC
  rw [List.pairwise_map]
  exact List.Pairwise.imp (fun h => by dsimp only; omega) (List.Pairwise.filter _ List.pairwise_lt_range)
theorem tiesC_len (hs : List Nat) (s p : Nat) : (tiesC hs s p).length ≤ hs.length := by
  unfold tiesC; rw [List.length_map]; exact filter_range_len _ _
theorem nodup_of_map {α β : Type} (f : α → β) : ∀ {l : List α}, (l.map f).Nodup → l.Nodup
  | [], _ => List.nodup_nil
  | a :: r, h => by
    rw [List.map_cons] at h
    obtain ⟨h1, h2⟩ := List.nodup_cons.mp h
    exact List.nodup_cons.mpr ⟨fun m => h1 (List.mem_map.mpr ⟨a, m, rfl⟩), nodup_of_map f h2⟩
theorem found_perm {hs : List Nat} {p : Nat} (T : TreeOk hs) (hp : p ≤ hs.length) (s : Nat) : (foundAt hs p s).Perm (tiesC hs s p) := by
  refine (List.perm_ext_iff_of_nodup (nodup_of_map (·.1) (found_nodup T hp s)) ?_).mpr (found_ties T hp s)
  exact List.Pairwise.imp (fun h e => by rw [e] at h; exact absurd h (Nat.lt_irrefl _)) (tiesC_sorted hs s p)
theorem found_len {hs : List Nat} {p : Nat} (T : TreeOk hs) (hp : p ≤ hs.length) (s : Nat) : (foundAt hs p s).length ≤ hs.length := by
  rw [(found_perm T hp s).length_eq]; exact tiesC_len hs s p
/-! ### what is told -/
def tel (hs : List Nat) (u d p : Nat) : List Nat × List (Nat × Nat) := ((chainF hs p).take u, tiesC hs d p)
def places (n : Nat) (lost : List Nat) : List Nat := (List.range (n + 1)).filter fun p => !lost.contains p
def tiesOf (t : List Nat × List (Nat × Nat)) (p : Nat) : List (Nat × Nat) := t.2 ++ (p :: t.1).zip t.1
def toldF (hs : List Nat) (u d : Nat) (lost : List Nat) : List (Nat × Nat) := (places hs.length lost).flatMap fun p => tiesOf (tel hs u d p) p
def kn (hs : List Nat) (u d : Nat) (lost : List Nat) (b : Nat) : Bool := (toldF hs u d lost).any fun q => decide (q.1 = b)
theorem zip_row {hs : List Nat} : ∀ (f p u : Nat) (q : Nat × Nat), q ∈ (p :: (chain hs f p).take u).zip ((chain hs f p).take u) → q.2 = par hs q.1 ∧ q.1 ≠ 0
  | 0, p, u, q, h => by simp [chain] at h
  | f + 1, p, 0, q, h => by simp at h
  | f + 1, p, u + 1, q, h => by
    unfold chain at h
    split at h
    · simp at h
    · rename_i hp
      rw [List.take_succ_cons, List.zip_cons_cons] at h
      rcases List.mem_cons.mp h with rfl | h
      · exact ⟨rfl, hp⟩
      · exact zip_row f (par hs p) u q h
theorem zip_le {hs : List Nat} (T : TreeOk hs) : ∀ (f p u : Nat) (q : Nat × Nat), p ≤ hs.length → q ∈ (p :: (chain hs f p).take u).zip ((chain hs f p).take u) → q.1 ≤ hs.length
  | 0, p, u, q, _, h => by simp [chain] at h
  | f + 1, p, 0, q, _, h => by simp at h
  | f + 1, p, u + 1, q, hl, h => by
    unfold chain at h
    split at h
    · simp at h
    · rw [List.take_succ_cons, List.zip_cons_cons] at h
      rcases List.mem_cons.mp h with rfl | h
      · exact hl
      · exact zip_le T f (par hs p) u q (T.le p) h
theorem tiesOf_ok {hs : List Nat} (T : TreeOk hs) {u d p : Nat} (hp : p ≤ hs.length) {q : Nat × Nat} (h : q ∈ tiesOf (tel hs u d p) p) : q.2 = par hs q.1 ∧ q.1 ≠ 0 ∧ q.1 ≤ hs.length := by
  rcases List.mem_append.mp h with h | h
  · obtain ⟨h1, h2, h3, _⟩ := mem_tiesC.mp h
    exact ⟨h3, by omega, h2⟩
  · obtain ⟨h1, h2⟩ := zip_row _ _ _ _ h
    exact ⟨h1, h2, zip_le T _ _ _ _ hp h⟩
theorem mem_places {n : Nat} {lost : List Nat} {p : Nat} : p ∈ places n lost ↔ p ≤ n ∧ ¬ p ∈ lost := by
  unfold places
  rw [List.mem_filter, List.mem_range, Bool.not_eq_true', ← Bool.not_eq_true, List.contains_iff_mem]
  exact ⟨fun h => ⟨by omega, h.2⟩, fun h => ⟨by omega, h.2⟩⟩
theorem toldF_ok {hs : List Nat} (T : TreeOk hs) {u d : Nat} {lost : List Nat} {q : Nat × Nat} (h : q ∈ toldF hs u d lost) : q.2 = par hs q.1 ∧ q.1 ≠ 0 ∧ q.1 ≤ hs.length := by
  obtain ⟨p, hp, h⟩ := List.mem_flatMap.mp h
  exact tiesOf_ok T (mem_places.mp hp).1 h
theorem kn_iff {hs : List Nat} {u d : Nat} {lost : List Nat} {b : Nat} : kn hs u d lost b = true ↔ ∃ h, (b, h) ∈ toldF hs u d lost := by
  unfold kn
  simp only [List.any_eq_true, decide_eq_true_eq]
  exact ⟨fun ⟨q, h, e⟩ => ⟨q.2, by rw [← e]; exact h⟩, fun ⟨h, e⟩ => ⟨_, e, rfl⟩⟩
theorem kn_ok {hs : List Nat} (T : TreeOk hs) {u d : Nat} {lost : List Nat} {b : Nat} (h : kn hs u d lost b = true) : b ≠ 0 ∧ b ≤ hs.length := by
  obtain ⟨x, hx⟩ := kn_iff.mp h
  exact (toldF_ok T hx).2
/-! ### the pieces -/
def wayF (hs : List Nat) (k : Nat → Bool) : Nat → Nat → List Nat
  | 0, p => [p]
  | f + 1, p => p :: if k p = true then wayF hs k f (par hs p) else []
def topF (hs : List Nat) (k : Nat → Bool) : Nat → Nat → Nat
  | 0, p => p
  | f + 1, p => if k p = true then topF hs k f (par hs p) else p
def way (hs : List Nat) (k : Nat → Bool) (p : Nat) : List Nat := wayF hs k hs.length p
def topp (hs : List Nat) (k : Nat → Bool) (p : Nat) : Nat := topF hs k hs.length p
def tops (n : Nat) (k : Nat → Bool) : List Nat := (List.range (n + 1)).filter fun p => !k p
def every (hs : List Nat) (k : Nat → Bool) (d : Nat) (lost : List Nat) : List Nat := (List.range (hs.length + 1)).filter fun p => ((way hs k p).take d).all fun x => lost.contains x
def lot (hs : List Nat) (k : Nat → Bool) (d : Nat) (lost : List Nat) (t : Nat) : List Nat := (every hs k d lost).filter fun p => decide (topp hs k p = t)
def manyF (c f F : Nat) : Nat := if c = 1 then 1 else f * F ^ (c - 2)
def digitsF (c : Nat) (ev l0 : List Nat) : List (List Nat) := if 1 < c then List.replicate (c - 2) ev ++ [l0] else []
def minL : List Nat → Option Nat
  | [] => none
  | a :: r => match minL r with
    | none => some a
    | some m => some (if a ≤ m then a else m)
def hungLoop (piece : Nat → Nat) : List Nat → List Nat → (Nat → Option Nat) → Option (Nat → Option Nat)
  | [], _, fnd => some fnd
  | pl :: rest, left, fnd => match minL (left.filter fun o => !(((pl :: rest).map piece).contains o)) with
    | none => none
    | some t => hungLoop piece rest (left.filter fun o => decide (o ≠ t)) (fun b => if b = t then some pl else fnd b)
def resF (fnd : Nat → Option Nat) : Nat → Option (List Nat)
  | 0 => some []
  | n + 1 => match resF fnd n, fnd (n + 1) with
    | some l, some x => some (l ++ [x])
    | _, _ => none
def firstF (hs : List Nat) (u d : Nat) (lost : List Nat) : Option (List Nat) :=
  let k := kn hs u d lost
  let ts := tops hs.length k
  let dg := digitsF ts.length (every hs k d lost) (lot hs k d lost 0)
  if 1 < ts.length ∧ lot hs k d lost 0 = [] then none
  else match hungLoop (topp hs k) (dg.map fun l => l.headD 0) ts.tail (fun b => if k b = true then some (par hs b) else none) with
    | none => none
    | some fnd => resF fnd hs.length
def leftF (hs : List Nat) (u d : Nat) (lost : List Nat) : Option Nat :=
  match firstF hs u d lost with
  | none => none
  | some first => if treeB first = true ∧ first.length = hs.length ∧ ((places hs.length lost).all fun p => decide (tel first u d p = tel hs u d p)) = true then
      some (manyF (tops hs.length (kn hs u d lost)).length (lot hs (kn hs u d lost) d lost 0).length (every hs (kn hs u d lost) d lost).length)
    else none
end Fv
end
section
/-! what things are -/
namespace Fv
open PySem PySem.Spec PyProof.Rows L2 Evl
section
variable {P : Program} {w : World} {K : PySem.W.Frag} {mg : Str → Option Value} {base : Heap}
/-! ### is_integer, is_within -/
def sp_is_integer : Sp := fun vs H Q _ => ∃ i : Int, vs = [.int i] ∧ ∀ H', Ex H H' → Q (.bl true) H'
theorem ok_is_integer (T : Txt K mg) : Callee P w K mg base 1 "is_integer" ["thing"] sp_is_integer := by
  refine callee_mk T.f_is_integer T.g_is_integer (fun fd F => ?_) (fun _ _ _ _ _ _ us hl => match us, hl with | [_], _ => rfl)
  refine F.ok sc_is_integer (fun vs H Q E h => ?_) (fun cdv A outer s H vs Q E hr h => ?_)
  · obtain ⟨i, rfl, _⟩ := h; rfl
  · obtain ⟨i, rfl, q⟩ := h
    refine ⟨_, (pss_one (ps_ret (pe_and (pe_callB call_isi (by rfl) T.n_isinstance (by decide +kernel) (pa_cons (pv 0) (pa_cons (pe_bltn (v := .ty "int") (by rfl) T.n_int (by decide +kernel) rfl) pa_nil))) (pe_one (pe_not (pe_callB call_isi (by rfl) T.n_isinstance (by decide +kernel) (pa_cons (pv 0) (pa_cons (pe_bltn (v := .ty "bool") (by rfl) T.n_bool (by decide +kernel) rfl) pa_nil)))))))), ?_⟩
    refine ⟨_, rfl, _, _, _, _, true, rfl, .ty _, .base (.int i), kit_ty (by decide +kernel), true, rfl, ?_⟩
    refine iteT ?_
    refine ⟨_, rfl, _, _, _, _, false, rfl, .ty _, .base (.int i), kit_ty (by decide +kernel), false, rfl, ?_⟩
    exact q H (Ex.refl H)
def sp_is_within : Sp := fun vs H Q _ => ∃ i l m : Int, vs = [.int i, .int l, .int m] ∧ ∀ H', Ex H H' → Q (.bl (decide (l ≤ i ∧ i ≤ m))) H'
theorem ok_is_within (T : Txt K mg) : Callee P w K mg base 2 "is_within" ["thing", "least", "most"] sp_is_within := by
  refine callee_mk T.f_is_within T.g_is_within (fun fd F => ?_) (fun _ _ _ _ _ _ us hl => match us, hl with | [_, _, _], _ => rfl)
  refine F.ok sc_is_within (fun vs H Q E h => ?_) (fun cdv A outer s H vs Q E hr h => ?_)
  · obtain ⟨i, l, m, rfl, _⟩ := h; rfl
  · obtain ⟨i, l, m, rfl, q⟩ := h
    refine ⟨_, (pss_one (ps_ret (pe_and (pe_cal (ok_is_integer T) (hr.mono (by decide)) (by rfl) (pa_cons (pv 0) pa_nil)) (pe_one (pe_chain op_le op_le (pv 1) (pv 0) (pv 2)))))), ?_⟩
    refine ⟨_, rfl, i, rfl, fun H1 e1 => ⟨true, rfl, iteT ?_⟩⟩
    refine ⟨_, rfl, _, rfl, _, _, rfl, rfl, _, rfl, ?_⟩
    refine ite2 (fun h1 => ?_) (fun h1 => ?_)
    · refine ⟨_, rfl, _, _, rfl, rfl, ?_⟩
      have h1 := of_decide_eq_true h1
      have e : decide (l ≤ i ∧ i ≤ m) = decide (i ≤ m) := by simp [h1]
      rw [e] at q
      exact q H1 e1
    · have h1 : ¬ l ≤ i := fun z => h1 (decide_eq_true z)
      have e : decide (l ≤ i ∧ i ≤ m) = false := by simp [h1]
      rw [e] at q
      exact q H1 e1
def sp_is_pair (K : PySem.W.Frag) : Sp := fun vs H Q _ => ∃ (a : Addr) (x y : V), vs = [.ref a] ∧ SqT K H a [x, y] ∧ ∀ H', Ex H H' → Q (.bl true) H'
theorem ok_is_pair (T : Txt K mg) : Callee P w K mg base 1 "is_pair" ["thing"] (sp_is_pair K) := by
  refine callee_mk T.f_is_pair T.g_is_pair (fun fd F => ?_) (fun _ _ _ _ _ _ us hl => match us, hl with | [_], _ => rfl)
  refine F.ok sc_is_pair (fun vs H Q E h => ?_) (fun cdv A outer s H vs Q E hr h => ?_)
  · obtain ⟨a, x, y, rfl, _⟩ := h; rfl
  · obtain ⟨a, x, y, rfl, hS, q⟩ := h
    refine ⟨_, (pss_one (ps_ret (pe_and (pe_callB call_isi (by rfl) T.n_isinstance (by decide +kernel) (pa_cons (pv 0) (pa_cons (pe_bltn (v := .ty "tuple") (by rfl) T.n_tuple (by decide +kernel) rfl) pa_nil))) (pe_one (pe_cmpR op_eq (pe_callB call_len_seq (by rfl) T.n_len PySem.boot_len (pa_cons (pv 0) pa_nil)) pe_int (nomark _)))))), ?_⟩
    refine ⟨_, rfl, _, _, _, _, true, rfl, .ty _, ty_tup hS, kit_ty (by decide +kernel), true, rfl, iteT ?_⟩
    refine ⟨_, rfl, a, _, rfl, .inr hS, rfl, ?_⟩
    exact q H (Ex.refl H)
end
end Fv
end
section
/-! lots, views, pairs in order -/
namespace Fv
open PySem PySem.Spec PyProof.Rows L2 Evl
theorem sl_tail {K : PySem.W.Frag} {H : Hp} {a : Addr} {xs : List V} {Q : VK} (hS : SqT K H a xs) (q : ∀ b H1, Ex H H1 → SqT K H1 b (xs.drop 1) → Q (.ref b) H1) : rSlA K (.ref a) (some 1) none H Q := by
  have e1 : HT.sIx xs.length 0 (some 1) = min 1 xs.length := HT.sIx_nat xs.length 0 1
  refine ⟨a, xs, rfl, hS, fun h => ?_, fun h p hp => ?_⟩
  · rw [e1] at h
    have hx : xs = [] := List.length_eq_zero_iff.mp (by have := h.1; omega)
    subst hx
    exact q a H (Ex.refl H) hS
  · refine q p _ (Ex.new hp) ?_
    have e : cutV xs (some 1) none = xs.drop 1 := by
      unfold cutV
      rw [e1, HT.sIx_none]
      rw [e1, HT.sIx_none] at h
      have h1 : min 1 xs.length = 1 := by
        cases xs with
        | nil => exact absurd ⟨rfl, rfl⟩ h
        | cons x r => rw [List.length_cons]; omega
      rw [h1]
      refine List.take_of_length_le ?_
      rw [List.length_drop]
      exact Nat.le_refl _
    rw [e]
    exact .inl (.inl upd_same)
theorem all_of {K : PySem.W.Frag} {H : Hp} {D : Addr} {ys : List V} {Q : VK} {α : Type} {l : List α} (hp : Paired (fun _ y => y = V.bl true) l ys) (hS : SqL K H D ys) (q : Q (.bl true) H) : rAll K [.ref D] H Q := by
  have e : ys = (List.replicate l.length true).map V.bl := by
    rw [paired_eq (f := fun _ => V.bl true) hp, List.map_replicate]
    clear hp
    induction l with
    | nil => rfl
    | cons a r ih => rw [List.map_cons, ih]; rfl
  refine ⟨D, List.replicate l.length true, rfl, e ▸ hS, ?_⟩
  have e2 : (List.replicate l.length true).all id = true := by
    rw [List.all_eq_true]
    intro x hx
    rw [List.eq_of_mem_replicate hx]
    rfl
  rw [e2]
  exact q
theorem drop1_at {xs : List V} {i : Nat} : (xs.drop 1)[i]? = xs[i + 1]? := by rw [List.getElem?_drop, Nat.add_comm]
theorem mono_eq {v : V} : Mono (fun y _ => y = v) := fun _ _ _ _ h => h
section
variable {P : Program} {w : World} {K : PySem.W.Frag} {mg : Str → Option Value} {base : Heap}
def sp_is_ascending (K : PySem.W.Frag) : Sp := fun vs H Q _ => ∃ (a : Addr) (ns : List Nat), vs = [.ref a] ∧ SqT K H a (vns ns) ∧ ns.Pairwise (· < ·) ∧ ns.length ≤ 1000 ∧ ∀ H', Ex H H' → Q (.bl true) H'
theorem ok_is_ascending (T : Txt K mg) : Callee P w K mg base 1 "is_ascending" ["items"] (sp_is_ascending K) := by
  refine callee_mk T.f_is_ascending T.g_is_ascending (fun fd F => ?_) (fun _ _ _ _ _ _ us hl => match us, hl with | [_], _ => rfl)
  refine F.ok sc_is_ascending (fun vs H Q E h => ?_) (fun cdv A outer s H vs Q E hr h => ?_)
  · obtain ⟨a, ns, rfl, _⟩ := h; rfl
  · obtain ⟨a, ns, rfl, hS, hw, hl, q⟩ := h
    refine ⟨_, (pss_one (ps_ret (pe_callB (cr_all rfl) (by rfl) T.n_all (by decide +kernel) (pa_cons (pe_lc (own := [("one", 1), ("other", 2)]) (g := (gTup K 2 (gCons (gName 1) (gCons (gName 2) gNil)))) (tt := tYes) (by rfl) sc_is_ascending.nd (RZ.pi_zipA (by rfl) T.n_zip (pa_cons (pv 0) (pa_cons (pe_slice sl_tupA (pv 0) (po_some pe_int) po_none) pa_nil))) (blkOk_by (own := [("one", 1), ("other", 2)]) (N := N_is_ascending) (sc := defScope s_is_ascending) (by decide +kernel)) (fun _ _ _ _ _ => (pg_tup (by rfl) (pgs_cons (pg_name (i := 1) sc_is_ascending.nd rfl (Or.inl rfl)) (pgs_cons (pg_name (i := 2) sc_is_ascending.nd rfl (Or.inl rfl)) pgs_nil)))) (fun _ _ _ _ _ => pts_nil) (fun _ _ _ _ _ => (pe_cmpR op_lt (pv 1) (pv 2) (nomark _)))) pa_nil)))), ?_⟩
    refine ⟨.ref a, rfl, .ref a, rfl, 1, rfl, ?_⟩
    dsimp only [tNoPart, tNil]
    refine sl_tail hS (fun b H1 e1 hb => ?_)
    have hA := ex_t e1 hS
    refine ⟨a, b, _, _, rfl, .inr ⟨hA, hb, ?_⟩⟩
    refine lcJ (n := ns.length - 1) (f := fun _ => true) (E := fun _ y _ => y = .bl true) (fun _ => mono_eq) (by omega) (fun i H' e hi => ?_) (fun H' e => ?_) (fun D i x H' H'' hD e hys hi hy Qy Qn qy qn => ?_) (fun D ys H2 hD e hy hp => ?_)
    · refine ⟨vns ns, (vns ns).drop 1, VI ns[i], VI ns[i + 1], ex_t e hA, ex_t e hb, ?_, ?_⟩
      · rw [List.getElem?_map, List.getElem?_eq_getElem (show i < ns.length by omega)]; rfl
      · rw [drop1_at, List.getElem?_map, List.getElem?_eq_getElem (show i + 1 < ns.length by omega)]; rfl
    · refine ⟨vns ns, (vns ns).drop 1, ex_t e hA, ex_t e hb, .inr ?_⟩
      rw [List.length_drop, List.length_map]; exact Nat.le_refl _
    · obtain ⟨t, x1, x2, rfl, nT, rfl, f1, f2⟩ := hy
      obtain ⟨n1, g1, rfl⟩ := vns_at (f1 _ (ex_t e hA))
      have f2 := f2 _ (ex_t e hb)
      rw [drop1_at] at f2
      obtain ⟨n2, g2, rfl⟩ := vns_at f2
      refine ⟨t, [VI n1, VI n2], rfl, .inl (.inl upd_same), rfl, VI n1, [VI n2], rfl, VI n2, [], rfl, rfl, yes_go rfl ?_⟩
      refine ⟨_, rfl, _, rfl, _, _, rfl, rfl, ?_⟩
      refine qy _ _ (Ex.new nT) rfl ?_
      obtain ⟨l1, g1⟩ := List.getElem?_eq_some_iff.mp g1
      obtain ⟨l2, g2⟩ := List.getElem?_eq_some_iff.mp g2
      have := List.pairwise_iff_getElem.mp hw i (i + 1) l1 l2 (by omega)
      rw [g1, g2] at this
      have h : ((n1 : Int) < (n2 : Int)) := by omega
      show V.bl (decide ((n1 : Int) < (n2 : Int))) = _
      rw [decide_eq_true h]
    · exact all_of hp (.inl (.inl hy)) (q H2 (e1.trans e))
def PairsAt (K : PySem.W.Frag) (ps : List (Nat × Nat)) (ys : List V) (H : Hp) : Prop := Paired (fun (p : Nat × Nat) (y : V) => ∃ t, y = .ref t ∧ SqT K H t [VI p.1, VI p.2]) ps ys
theorem PairsAt.mono {ps : List (Nat × Nat)} {ys : List V} {H H' : Hp} (e : Ex H H') (h : PairsAt K ps ys H) : PairsAt K ps ys H' :=
  paired_imp h fun _ _ _ ⟨t, h1, h2⟩ => ⟨t, h1, ex_t e h2⟩
theorem paired_at {α β : Type} {F : α → β → Prop} : ∀ {l : List α} {ys : List β} {i : Nat} {y : β}, Paired F l ys → ys[i]? = some y → ∃ a, l[i]? = some a ∧ F a y
  | _, _, _, _, .nil, h => by cases h
  | _, _, 0, _, .cons r t, h => by cases h; exact ⟨_, rfl, r⟩
  | _, _, i + 1, _, .cons r t, h => paired_at (i := i) t h
theorem paired_get2 {α β : Type} {F : α → β → Prop} : ∀ {l : List α} {ys : List β} {i : Nat} {a : α}, Paired F l ys → l[i]? = some a → ∃ y, ys[i]? = some y ∧ F a y
  | _, _, _, _, .nil, h => by cases h
  | _, _, 0, _, .cons r t, h => by cases h; exact ⟨_, rfl, r⟩
  | _, _, i + 1, _, .cons r t, h => paired_get2 (i := i) t h
def sp_is_ascending_t (K : PySem.W.Frag) : Sp := fun vs H Q _ => ∃ (a : Addr) (ys : List V) (ps : List (Nat × Nat)), vs = [.ref a] ∧ SqT K H a ys ∧ PairsAt K ps ys H ∧ ps.Pairwise (fun p q => p.1 < q.1) ∧ ps.length ≤ 1000 ∧ ∀ H', Ex H H' → Q (.bl true) H'
theorem ok_is_ascending_t (T : Txt K mg) : Callee P w K mg base 1 "is_ascending" ["items"] (sp_is_ascending_t K) := by
  refine callee_mk T.f_is_ascending T.g_is_ascending (fun fd F => ?_) (fun _ _ _ _ _ _ us hl => match us, hl with | [_], _ => rfl)
  refine F.ok sc_is_ascending (fun vs H Q E h => ?_) (fun cdv A outer s H vs Q E hr h => ?_)
  · obtain ⟨a, ys, ps, rfl, _⟩ := h; rfl
  · obtain ⟨a, zs, ps, rfl, hS, hP, hw, hl, q⟩ := h
    refine ⟨_, (pss_one (ps_ret (pe_callB (cr_all rfl) (by rfl) T.n_all (by decide +kernel) (pa_cons (pe_lc (own := [("one", 1), ("other", 2)]) (g := (gTup K 2 (gCons (gName 1) (gCons (gName 2) gNil)))) (tt := tYes) (by rfl) sc_is_ascending.nd (RZ.pi_zipA (by rfl) T.n_zip (pa_cons (pv 0) (pa_cons (pe_slice sl_tupA (pv 0) (po_some pe_int) po_none) pa_nil))) (blkOk_by (own := [("one", 1), ("other", 2)]) (N := N_is_ascending) (sc := defScope s_is_ascending) (by decide +kernel)) (fun _ _ _ _ _ => (pg_tup (by rfl) (pgs_cons (pg_name (i := 1) sc_is_ascending.nd rfl (Or.inl rfl)) (pgs_cons (pg_name (i := 2) sc_is_ascending.nd rfl (Or.inl rfl)) pgs_nil)))) (fun _ _ _ _ _ => pts_nil) (fun _ _ _ _ _ => (pe_cmpR (op_ltT_K K hr.units0) (pv 1) (pv 2) (nomark _)))) pa_nil)))), ?_⟩
    refine ⟨.ref a, rfl, .ref a, rfl, 1, rfl, ?_⟩
    dsimp only [tNoPart, tNil]
    refine sl_tail hS (fun b H1 e1 hb => ?_)
    have hA := ex_t e1 hS
    have hn : zs.length = ps.length := (paired_len hP).symm
    refine ⟨a, b, _, _, rfl, .inr ⟨hA, hb, ?_⟩⟩
    refine lcJ (n := zs.length - 1) (f := fun _ => true) (E := fun _ y _ => y = .bl true) (fun _ => mono_eq) (by omega) (fun i H' e hi => ?_) (fun H' e => ?_) (fun D i x H' H'' hD e hys hi hy Qy Qn qy qn => ?_) (fun D ys H2 hD e hy hp => ?_)
    · refine ⟨zs, zs.drop 1, zs[i], zs[i + 1], ex_t e hA, ex_t e hb, List.getElem?_eq_getElem (show i < zs.length by omega), ?_⟩
      rw [drop1_at]; exact List.getElem?_eq_getElem (show i + 1 < zs.length by omega)
    · refine ⟨zs, zs.drop 1, ex_t e hA, ex_t e hb, .inr ?_⟩
      rw [List.length_drop]; exact Nat.le_refl _
    · obtain ⟨t, x1, x2, rfl, nT, rfl, f1, f2⟩ := hy
      have f1 := f1 _ (ex_t e hA)
      have f2 := f2 _ (ex_t e hb)
      rw [drop1_at] at f2
      have hP' := hP.mono ((e1.trans e).trans (Ex.new (o := .tup [x1, x2]) nT))
      obtain ⟨p1, g1, t1, rfl, s1⟩ := paired_at hP' f1
      obtain ⟨p2, g2, t2, rfl, s2⟩ := paired_at hP' f2
      refine ⟨t, _, rfl, .inl (.inl upd_same), rfl, .ref t1, [.ref t2], rfl, .ref t2, [], rfl, rfl, yes_go rfl ?_⟩
      refine ⟨_, rfl, _, rfl, t1, t2, [(p1.1 : Int), (p1.2 : Int)], [(p2.1 : Int), (p2.2 : Int)], rfl, rfl, s1, s2, ?_⟩
      refine qy _ _ (Ex.new nT) rfl ?_
      obtain ⟨l1, g1⟩ := List.getElem?_eq_some_iff.mp g1
      obtain ⟨l2, g2⟩ := List.getElem?_eq_some_iff.mp g2
      have := List.pairwise_iff_getElem.mp hw i (i + 1) l1 l2 (by omega)
      rw [g1, g2] at this
      have h : ((p1.1 : Int) < (p2.1 : Int)) := by omega
      have h2 : ¬ (p1.1 : Int) = (p2.1 : Int) := by omega
      show V.bl (if (p1.1 : Int) = (p2.1 : Int) then _ else decide ((p1.1 : Int) < (p2.1 : Int))) = _
      rw [if_neg h2, decide_eq_true h]
    · exact all_of hp (.inl (.inl hy)) (q H2 (e1.trans e))
def sp_is_lot (K : PySem.W.Frag) : Sp := fun vs H Q _ => ∃ (a : Addr) (ns : List Nat) (m : Nat), vs = [.ref a, .int 1, VI m] ∧ SqT K H a (vns ns) ∧ ns.Pairwise (· < ·) ∧ ns.length ≤ 1000 ∧ (∀ n ∈ ns, 1 ≤ n ∧ n ≤ m) ∧ ∀ H', Ex H H' → Q (.bl true) H'
theorem ok_is_lot (T : Txt K mg) : Callee P w K mg base 3 "is_lot" ["thing", "least", "most"] (sp_is_lot K) := by
  refine callee_mk T.f_is_lot T.g_is_lot (fun fd F => ?_) (fun _ _ _ _ _ _ us hl => match us, hl with | [_, _, _], _ => rfl)
  refine F.ok sc_is_lot (fun vs H Q E h => ?_) (fun cdv A outer s H vs Q E hr h => ?_)
  · obtain ⟨a, ns, m, rfl, _⟩ := h; rfl
  · obtain ⟨a, ns, m, rfl, hS, hw, hl, hb, q⟩ := h
    refine ⟨_, (pss_cons (ps_if (PW.pt (pw_or (pt_not (pt_val (pe_callB call_isi (by rfl) T.n_isinstance (by decide +kernel) (pa_cons (pv 0) (pa_cons (pe_bltn (v := .ty "tuple") (by rfl) T.n_tuple (by decide +kernel) rfl) pa_nil))))) (pw_or1 (pt_not (pt_val (pe_callB (cr_all rfl) (by rfl) T.n_all (by decide +kernel) (pa_cons (pe_lc (own := [("item", 3)]) (g := (gName 3)) (tt := tYes) (by rfl) sc_is_lot.nd (pi_tup (pv 0)) (blkOk_by (own := [("item", 3)]) (N := N_is_lot) (sc := defScope s_is_lot) (by decide +kernel)) (fun _ _ _ _ _ => (pg_name (i := 3) sc_is_lot.nd rfl (Or.inl rfl))) (fun _ _ _ _ _ => pts_nil) (fun _ _ _ _ _ => (pe_cal (ok_is_within T) (hr.mono (by decide)) (by rfl) (pa_cons (pv 3) (pa_cons (pv 1) (pa_cons (pv 2) pa_nil)))))) pa_nil))))))) (pss_one (ps_ret pe_bl)) pss_nil)
      (pss_one (ps_ret (pe_cal (ok_is_ascending T) (hr.mono (by decide)) (by rfl) (pa_cons (pv 0) pa_nil))))), ?_⟩
    refine ⟨_, rfl, _, _, _, _, true, rfl, .ty _, ty_tup hS, kit_ty (by decide +kernel), true, rfl, iteF ?_⟩
    refine ⟨.ref a, rfl, a, rfl, ⟨_, hS⟩, ?_⟩
    refine lcT hS (f := fun _ => true) (E := fun _ y _ => y = .bl true) (fun _ => mono_eq) (by rw [List.length_map]; omega) (fun D i x H' hD e hys hx Qy Qn qy qn => ?_) (fun D ys H2 hD e hy hp => ?_)
    · obtain ⟨n, hn, rfl⟩ := vns_at hx
      have hb := hb n (List.mem_of_getElem? hn)
      refine yes_go rfl ?_
      refine ⟨_, rfl, _, rfl, _, rfl, n, 1, m, rfl, fun H4 e4 => qy _ _ e4 rfl ?_⟩
      rw [decide_eq_true (by omega)]
    · dsimp only [tNil]
      refine all_of hp (.inl (.inl hy)) ?_
      refine ⟨true, rfl, iteF ?_⟩
      exact ⟨_, rfl, a, ns, rfl, ex_t e hS, hw, hl, fun H' e' => q H' (e.trans e')⟩
def sp_is_view (K : PySem.W.Frag) : Sp := fun vs H Q _ => ∃ (a : Addr) (u d : Nat), vs = [.ref a] ∧ SqT K H a [VI u, VI d] ∧ u ≤ 4 ∧ d ≤ 4 ∧ ∀ H', Ex H H' → Q (.bl true) H'
theorem ok_is_view (T : Txt K mg) : Callee P w K mg base 3 "is_view" ["thing"] (sp_is_view K) := by
  refine callee_mk T.f_is_view T.g_is_view (fun fd F => ?_) (fun _ _ _ _ _ _ us hl => match us, hl with | [_], _ => rfl)
  refine F.ok sc_is_view (fun vs H Q E h => ?_) (fun cdv A outer s H vs Q E hr h => ?_)
  · obtain ⟨a, u, d, rfl, _⟩ := h; rfl
  · obtain ⟨a, u, d, rfl, hS, hu4, hd4, q⟩ := h
    refine ⟨_, (pss_one (ps_ret (pe_and (pe_cal (ok_is_pair T) (hr.mono (by decide)) (by rfl) (pa_cons (pv 0) pa_nil)) (pe_one (pe_callB (cr_all rfl) (by rfl) T.n_all (by decide +kernel) (pa_cons (pe_lc (own := [("item", 1)]) (g := (gName 1)) (tt := tYes) (by rfl) sc_is_view.nd (pi_tup (pv 0)) (blkOk_by (own := [("item", 1)]) (N := N_is_view) (sc := defScope s_is_view) (by decide +kernel)) (fun _ _ _ _ _ => (pg_name (i := 1) sc_is_view.nd rfl (Or.inl rfl))) (fun _ _ _ _ _ => pts_nil) (fun _ _ _ _ _ => (pe_cal (ok_is_within T) (hr.mono (by decide)) (by rfl) (pa_cons (pv 1) (pa_cons pe_int (pa_cons (pe_gi (by rfl) T.MOST_STEPS) pa_nil)))))) pa_nil)))))), ?_⟩
    refine ⟨_, rfl, a, _, _, rfl, hS, fun H1 e1 => ⟨true, rfl, iteT ?_⟩⟩
    refine ⟨.ref a, rfl, a, rfl, ⟨_, ex_t e1 hS⟩, ?_⟩
    refine lcT (xs := vns [u, d]) (ex_t e1 hS) (f := fun _ => true) (E := fun _ y _ => y = .bl true) (fun _ => mono_eq) (by show 2 ≤ 50000; omega) (fun D i x H' hD e hys hx Qy Qn qy qn => ?_) (fun D ys H2 hD e hy hp => ?_)
    · obtain ⟨n, hn, rfl⟩ := vns_at hx
      have hb : n ≤ 4 := by
        have hm := List.mem_of_getElem? hn
        simp only [List.mem_cons, List.not_mem_nil, or_false] at hm
        omega
      refine yes_go rfl ?_
      refine ⟨_, rfl, n, 0, 4, rfl, fun H4 e4 => qy _ _ e4 rfl ?_⟩
      rw [decide_eq_true (by omega)]
    · exact all_of hp (.inl (.inl hy)) (q _ (e1.trans e))
def sp_check_view (K : PySem.W.Frag) : Sp := fun vs H Q _ => ∃ (a : Addr) (u d : Nat), vs = [.ref a] ∧ SqT K H a [VI u, VI d] ∧ u ≤ 4 ∧ d ≤ 4 ∧ ∀ H', Ex H H' → Q .non H'
theorem ok_check_view (T : Txt K mg) : Callee P w K mg base 4 "check_view" ["view"] (sp_check_view K) := by
  refine callee_mk T.f_check_view T.g_check_view (fun fd F => ?_) (fun _ _ _ _ _ _ us hl => match us, hl with | [_], _ => rfl)
  refine F.ok sc_check_view (fun vs H Q E h => ?_) (fun cdv A outer s H vs Q E hr h => ?_)
  · obtain ⟨a, u, d, rfl, _⟩ := h; rfl
  · obtain ⟨a, u, d, rfl, hS, hu4, hd4, q⟩ := h
    refine ⟨_, (pss_one (ps_if (pt_not (pt_val (pe_cal (ok_is_view T) (hr.mono (by decide)) (by rfl) (pa_cons (pv 0) pa_nil)))) (pss_one ps_never) pss_nil)), ?_⟩
    exact ⟨_, rfl, a, u, d, rfl, hS, hu4, hd4, fun H1 e1 => ⟨true, rfl, iteF (q H1 e1)⟩⟩
def sp_check_lot (K : PySem.W.Frag) : Sp := fun vs H Q _ => ∃ (a : Addr) (ns : List Nat) (m : Nat), vs = [VI m, .ref a] ∧ SqT K H a (vns ns) ∧ ns.Pairwise (· < ·) ∧ ns.length ≤ 1000 ∧ (∀ n ∈ ns, 1 ≤ n ∧ n ≤ m) ∧ ∀ H', Ex H H' → Q .non H'
theorem ok_check_lot (T : Txt K mg) : Callee P w K mg base 4 "check_lot" ["blocks", "thing"] (sp_check_lot K) := by
  refine callee_mk T.f_check_lot T.g_check_lot (fun fd F => ?_) (fun _ _ _ _ _ _ us hl => match us, hl with | [_, _], _ => rfl)
  refine F.ok sc_check_lot (fun vs H Q E h => ?_) (fun cdv A outer s H vs Q E hr h => ?_)
  · obtain ⟨a, ns, m, rfl, _⟩ := h; rfl
  · obtain ⟨a, ns, m, rfl, hS, hw, hl, hb, q⟩ := h
    refine ⟨_, (pss_one (ps_if (pt_not (pt_val (pe_cal (ok_is_lot T) (hr.mono (by decide)) (by rfl) (pa_cons (pv 1) (pa_cons pe_int (pa_cons (pv 0) pa_nil)))))) (pss_one ps_never) pss_nil)), ?_⟩
    exact ⟨_, rfl, _, rfl, a, ns, m, rfl, hS, hw, hl, hb, fun H1 e1 => ⟨true, rfl, iteF (q H1 e1)⟩⟩
end
end Fv
end
section
/-! trees -/
namespace Fv
open PySem PySem.Spec PyProof.Rows L2 Evl
/-! ### loops over ranges, by Nat -/
theorem forR0 {m n : Nat} (e : m = n) {g : TG} {tb : TS} {D : Ends} {σ : L2.St} {H : Hp} (Pv : Nat → L2.St → Hp → Prop) (h0 : Pv 0 σ H)
    (hs : ∀ i σ H, i < n → Pv i σ H → g (VI i) σ H fun σ2 H2 => tb { D with nx := Pv (i + 1), ct := Pv (i + 1), bk := D.nx } σ2 H2) (hd : ∀ σ H, Pv n σ H → D.nx σ H) :
    ∃ W : Nat → Nat → L2.St → Hp → Prop, (∃ m, W 0 m σ H) ∧ ∀ i m' σ H, W i m' σ H →
      ((Itr 0 m).stop i H ∧ D.nx σ H) ∨ ((Itr 0 m).go i H ∧ ∃ N : L2.St → Hp → Prop, (∀ σ' H', N σ' H' → ∃ m'', m'' < m' ∧ W (i + 1) m'' σ' H') ∧ ∀ x H', (Itr 0 m).yld i H x H' → g x σ H' fun σ2 H2 => tb { D with nx := N, ct := N, bk := D.nx } σ2 H2) := by
  subst e
  refine for_range (lo := 0) (n := m) Pv h0 (fun i σ H hi p => ?_) hd
  have e0 : (0 : Int) + (i : Int) = (i : Int) := Int.zero_add _
  rw [e0]
  exact hs i σ H hi p
theorem forR1 {m n : Nat} (e : m = n) {g : TG} {tb : TS} {D : Ends} {σ : L2.St} {H : Hp} (Pv : Nat → L2.St → Hp → Prop) (h0 : Pv 0 σ H)
    (hs : ∀ i σ H, i < n → Pv i σ H → g (VI (i + 1)) σ H fun σ2 H2 => tb { D with nx := Pv (i + 1), ct := Pv (i + 1), bk := D.nx } σ2 H2) (hd : ∀ σ H, Pv n σ H → D.nx σ H) :
    ∃ W : Nat → Nat → L2.St → Hp → Prop, (∃ m, W 0 m σ H) ∧ ∀ i m' σ H, W i m' σ H →
      ((Itr 1 m).stop i H ∧ D.nx σ H) ∨ ((Itr 1 m).go i H ∧ ∃ N : L2.St → Hp → Prop, (∀ σ' H', N σ' H' → ∃ m'', m'' < m' ∧ W (i + 1) m'' σ' H') ∧ ∀ x H', (Itr 1 m).yld i H x H' → g x σ H' fun σ2 H2 => tb { D with nx := N, ct := N, bk := D.nx } σ2 H2) := by
  subst e
  refine for_range (lo := 1) (n := m) Pv h0 (fun i σ H hi p => ?_) hd
  have e0 : (1 : Int) + (i : Int) = ((i + 1 : Nat) : Int) := by omega
  rw [e0]
  exact hs i σ H hi p
/-- over 1, 2, .. -/
theorem lcR1 {m n : Nat} (em : m = n) {g : TG} {tt : TT} {te : TE} {vs : List Nat} {σ : L2.St} {H : Hp} {Qd : Addr → Hp → Prop} (f : Nat → Bool) (E : Nat → V → Hp → Prop) (hE : ∀ i, Mono (E i)) (hn : n ≤ 50000)
    (turn : ∀ (D : Addr) (i : Nat) (H' : Hp), H D = none → Ex H H' → (∃ ys, H' D = some (.lst ys)) → i < n → ∀ (Qy : V → Hp → Prop) (Qn : Hp → Prop),
      (∀ y H4, Ex H' H4 → f i = true → E i y (del H4 D) → Qy y H4) → (∀ H3, f i = false → Ex H' H3 → Qn H3) →
      g (VI (i + 1)) (wipe σ vs) H' fun σ2 H2 => wipe σ2 vs = wipe σ vs ∧ tt σ2 H2 fun b H3 => if b = true then te σ2 H3 Qy else Qn H3)
    (done : ∀ (D : Addr) (ys : List V) (H2 : Hp), H D = none → Ex H H2 → H2 D = some (.lst ys) → Paired (fun i y => E i y (del H2 D)) ((List.range n).filter f) ys → Qd D H2) :
    ∀ D, H D = none → ∃ W : Nat → Nat → Hp → Prop, (∃ m, W 0 m (upd H D (.lst []))) ∧ ∀ i m' H', W i m' H' →
      ((Itr 1 m).stop i H' ∧ Qd D H') ∨ ((Itr 1 m).go i H' ∧ ∃ Nx : Hp → Prop, (∀ H'', Nx H'' → ∃ m'', m'' < m' ∧ W (i + 1) m'' H'') ∧ ∀ x H'', (Itr 1 m).yld i H' x H'' → g x (wipe σ vs) H'' fun σ2 H2 => wipe σ2 vs = wipe σ vs ∧ tt σ2 H2 fun b H3 =>
        if b = true then te σ2 H3 fun y H4 => ∃ acc, H4 D = some (.lst acc) ∧ acc.length < sizeLine ∧ Nx (upd H4 D (.lst (acc ++ [y]))) else Nx H3) := by
  subst em
  refine lcR (lo := 1) (n := m) f E hE hn (fun D i H' hD e hys hi Qy Qn qy qn => ?_) done
  have e0 : (1 : Int) + (i : Int) = ((i + 1 : Nat) : Int) := by omega
  rw [e0]
  exact turn D i H' hD e hys hi Qy Qn qy qn
theorem lcR0 {m n : Nat} (em : m = n) {g : TG} {tt : TT} {te : TE} {vs : List Nat} {σ : L2.St} {H : Hp} {Qd : Addr → Hp → Prop} (f : Nat → Bool) (E : Nat → V → Hp → Prop) (hE : ∀ i, Mono (E i)) (hn : n ≤ 50000)
    (turn : ∀ (D : Addr) (i : Nat) (H' : Hp), H D = none → Ex H H' → (∃ ys, H' D = some (.lst ys)) → i < n → ∀ (Qy : V → Hp → Prop) (Qn : Hp → Prop),
      (∀ y H4, Ex H' H4 → f i = true → E i y (del H4 D) → Qy y H4) → (∀ H3, f i = false → Ex H' H3 → Qn H3) →
      g (VI i) (wipe σ vs) H' fun σ2 H2 => wipe σ2 vs = wipe σ vs ∧ tt σ2 H2 fun b H3 => if b = true then te σ2 H3 Qy else Qn H3)
    (done : ∀ (D : Addr) (ys : List V) (H2 : Hp), H D = none → Ex H H2 → H2 D = some (.lst ys) → Paired (fun i y => E i y (del H2 D)) ((List.range n).filter f) ys → Qd D H2) :
    ∀ D, H D = none → ∃ W : Nat → Nat → Hp → Prop, (∃ m, W 0 m (upd H D (.lst []))) ∧ ∀ i m' H', W i m' H' →
      ((Itr 0 m).stop i H' ∧ Qd D H') ∨ ((Itr 0 m).go i H' ∧ ∃ Nx : Hp → Prop, (∀ H'', Nx H'' → ∃ m'', m'' < m' ∧ W (i + 1) m'' H'') ∧ ∀ x H'', (Itr 0 m).yld i H' x H'' → g x (wipe σ vs) H'' fun σ2 H2 => wipe σ2 vs = wipe σ vs ∧ tt σ2 H2 fun b H3 =>
        if b = true then te σ2 H3 fun y H4 => ∃ acc, H4 D = some (.lst acc) ∧ acc.length < sizeLine ∧ Nx (upd H4 D (.lst (acc ++ [y]))) else Nx H3) := by
  subst em
  refine lcR (lo := 0) (n := m) f E hE hn (fun D i H' hD e hys hi Qy Qn qy qn => ?_) done
  have e0 : (0 : Int) + (i : Int) = (i : Int) := Int.zero_add _
  rw [e0]
  exact turn D i H' hD e hys hi Qy Qn qy qn
theorem vns_app {a b : List Nat} : vns (a ++ b) = vns a ++ vns b := List.map_append
theorem at_par {hs : List Nat} {b : Nat} (h1 : b ≠ 0) (h2 : b ≤ hs.length) : atI (vns hs) ((b : Int) - 1) = some (VI (par hs b)) := by
  obtain ⟨i, rfl⟩ : ∃ i, b = i + 1 := ⟨b - 1, by omega⟩
  refine at_of (j := i) (by omega) ?_
  rw [List.getElem?_map, List.getElem?_eq_getElem (show i < hs.length by omega), par_at (show i < hs.length by omega)]
  rfl
theorem vI_eq {a b : Nat} : (V.int (a : Int) = V.int (b : Int)) ↔ a = b := ⟨fun h => by injection h with h; omega, fun h => by rw [h]⟩
theorem dec_vI {a b : Nat} : decide (V.int (a : Int) = V.int (b : Int)) = decide (a = b) := decide_eq_decide.mpr vI_eq
/-- pairs as tracked tuples -/
def PT (ps : List (Nat × Nat)) (ys : List V) (H : Hp) : Prop := Paired (fun (p : Nat × Nat) (y : V) => ∃ t, y = .ref t ∧ H t = some (.tup [VI p.1, VI p.2])) ps ys
theorem PT.mono {ps : List (Nat × Nat)} {ys : List V} {H H' : Hp} (e : Ex H H') (h : PT ps ys H) : PT ps ys H' := paired_imp h fun _ _ _ ⟨t, h1, h2⟩ => ⟨t, h1, e _ _ h2⟩
theorem PT.upd {ps : List (Nat × Nat)} {ys zs : List V} {l : Addr} {o : HO} {H : Hp} (hl : H l = some (.lst zs)) (h : PT ps ys H) : PT ps ys (upd H l o) := paired_imp h fun _ _ _ ⟨t, h1, h2⟩ => ⟨t, h1, by
  rw [upd_ne (ne_of h2 hl (by intro z; cases z))]; exact h2⟩
theorem PT.to {K : PySem.W.Frag} {ps : List (Nat × Nat)} {ys : List V} {H : Hp} (h : PT ps ys H) : PairsAt K ps ys H := paired_imp h fun _ _ _ ⟨t, h1, h2⟩ => ⟨t, h1, .inl (.inl h2)⟩
theorem PT.app {ps qs : List (Nat × Nat)} {ys zs : List V} {H : Hp} (h : PT ps ys H) (h' : PT qs zs H) : PT (ps ++ qs) (ys ++ zs) H := Paired.app h h'
theorem sort_pairs {ps qs : List (Nat × Nat)} {xs ys : List V} {H : Hp} {k : V → Int × Int} (h : PT ps xs H) (hp : ps.Perm qs) (hq : qs.Pairwise fun a b => a.1 < b.1) (hk : ∀ x ∈ xs, ∃ t, x = V.ref t ∧ H t = some (.tup [.int (k x).1, .int (k x).2]))
    (hs : SrtO.Srtd (ltP k) ys) (hy : ys.Perm xs) : PT qs ys H := by
  have e1 : xs.map k = ps.map fun p => ((p.1 : Int), (p.2 : Int)) := by
    clear hy hs hp
    induction h with
    | nil => rfl
    | cons r t ih =>
      rename_i p x ps xs
      rw [List.map_cons, List.map_cons, ih fun x hx => hk x (List.mem_cons_of_mem _ hx)]
      obtain ⟨a, rfl, ha⟩ := r
      obtain ⟨b, hb, hb2⟩ := hk _ (List.mem_cons_self ..)
      cases hb
      rw [ha] at hb2
      have e := Option.some.inj hb2
      injection e with e
      injection e with e1 e2
      injection e2 with e2 _
      injection e1 with e1
      injection e2 with e2
      congr 1
      exact Prod.ext e1.symm e2.symm
  have e2 : ys.map k = qs.map fun p => ((p.1 : Int), (p.2 : Int)) := by
    refine List.Perm.eq_of_pairwise (le := fun a b : Int × Int => ¬ (b.1 < a.1 ∨ (b.1 = a.1 ∧ b.2 < a.2))) (fun a b _ _ h1 h2 => Prod.ext (by omega) (by omega)) ?_ ?_ ?_
    · rw [List.pairwise_map]
      exact List.Pairwise.imp (fun h => SrtO.lexB_no.mp h) hs
    · rw [List.pairwise_map]
      exact List.Pairwise.imp (fun h => by dsimp only; omega) hq
    · refine (hy.map k).trans ?_
      rw [e1]
      exact hp.map _
  have hk2 : ∀ x ∈ ys, ∃ t, x = V.ref t ∧ H t = some (.tup [.int (k x).1, .int (k x).2]) := fun x hx => hk x (hy.mem_iff.mp hx)
  clear hy hs hk e1 hp hq h
  induction ys generalizing qs with
  | nil =>
    cases qs with
    | nil => exact .nil
    | cons q r => cases e2
  | cons y r ih =>
    cases qs with
    | nil => cases e2
    | cons q s =>
      rw [List.map_cons, List.map_cons] at e2
      injection e2 with e3 e4
      refine .cons ?_ (ih e4 fun x hx => hk2 x (List.mem_cons_of_mem _ hx))
      obtain ⟨t, h1, h2⟩ := hk2 y (List.mem_cons_self ..)
      exact ⟨t, h1, by rw [h2, e3]⟩
def kOf (H : Hp) : V → Int × Int
  | .ref t => (match H t with
    | some (.tup [.int i, .int j]) => (i, j)
    | _ => (0, 0))
  | _ => (0, 0)
theorem kOf_ok {ps : List (Nat × Nat)} {xs : List V} {H : Hp} (h : PT ps xs H) : ∀ x ∈ xs, ∃ t, x = V.ref t ∧ H t = some (.tup [.int (kOf H x).1, .int (kOf H x).2]) := by
  induction h with
  | nil => intro x hx; cases hx
  | cons r t ih =>
    intro x hx
    rcases List.mem_cons.mp hx with rfl | hx
    · obtain ⟨a, rfl, ha⟩ := r
      refine ⟨a, rfl, ?_⟩
      have e : kOf H (.ref a) = (match H a with
        | some (.tup [.int i, .int j]) => (i, j)
        | _ => (0, 0)) := rfl
      rw [e, ha]
    · exact ih x hx
section
variable {P : Program} {w : World} {K : PySem.W.Frag} {mg : Str → Option Value} {base : Heap}
def sp_leads_home (K : PySem.W.Frag) : Sp := fun vs H Q _ => ∃ (a : Addr) (hs : List Nat) (b : Nat), vs = [.ref a, VI b] ∧ SqT K H a (vns hs) ∧ TreeOk hs ∧ b ≤ hs.length ∧ ∀ H', Ex H H' → Q (.bl true) H'
theorem ok_leads_home (T : Txt K mg) : Callee P w K mg base 1 "leads_home" ["hung", "block"] (sp_leads_home K) := by
  refine callee_mk T.f_leads_home T.g_leads_home (fun fd F => ?_) (fun _ _ _ _ _ _ us hl => match us, hl with | [_, _], _ => rfl)
  refine F.ok sc_leads_home (fun vs H Q E h => ?_) (fun cdv A outer s H vs Q E hr h => ?_)
  · obtain ⟨a, hs, b, rfl, _⟩ := h; rfl
  · obtain ⟨a, hs, b, rfl, hS, Tr, hb, q⟩ := h
    have h40 := Tr.n40
    refine ⟨_, (pss_cons (ps_set (i := 2) sc_leads_home.nd rfl (Or.inl rfl) (pv 1))
      (pss_cons (ps_for PassesOwn.never rfl (pi_range1 (by rfl) T.n_range (pa_cons (pe_op op_add (pe_callB call_len_seq (by rfl) T.n_len PySem.boot_len (pa_cons (pv 0) pa_nil)) pe_int) pa_nil)) (pg_name (i := 3) sc_leads_home.nd rfl (Or.inl rfl))
        (pss_cons (ps_if (pt_cmpR op_eq (pv 2) (pe_gi (by rfl) T.HEAD) (nomark _)) (pss_one (ps_ret pe_bl)) pss_nil)
      (pss_one (ps_set (i := 2) sc_leads_home.nd rfl (Or.inl rfl) (pe_ix ix_tup (pv 0) (pe_op op_sub (pv 2) pe_int) (fun _ _ => rfl))))))
      (pss_one (ps_ret pe_bl)))), ?_⟩
    refine ⟨_, rfl, .ref a, rfl, a, _, rfl, .inr hS, _, _, rfl, rfl, _, rfl, ?_, ?_, ?_⟩
    · rw [List.length_map]; omega
    · rw [List.length_map]; omega
    refine forR0 (n := hs.length + 1) (by rw [List.length_map]; omega) (fun i σ H' => H' = H ∧ (∃ y, σ = [some (.ref a), some (VI b), some (VI (up hs i b)), y]) ∧ ∀ j, j < i → up hs j b ≠ 0) ⟨rfl, ⟨none, rfl⟩, fun j hj => by omega⟩ ?_ ?_
    · rintro i σ H' hi ⟨rfl, ⟨y, rfl⟩, hj⟩
      refine ⟨_, rfl, rfl, _, rfl, ite2 (fun h => ?_) (fun h => ?_)⟩
      · exact q H' (Ex.refl H')
      · have hx : up hs i b ≠ 0 := fun z => h (decide_eq_true (by rw [z]; rfl))
        refine ⟨.ref a, rfl, _, rfl, _, _, rfl, rfl, a, _, _, _, rfl, rfl, hS, at_par hx (Tr.up_le hb i), ?_⟩
        refine ⟨rfl, ⟨_, by rw [up_succ]; rfl⟩, fun j hj' => ?_⟩
        by_cases e : j = i
        · rw [e]; exact hx
        · exact hj j (by omega)
    · rintro σ H' ⟨rfl, ⟨y, rfl⟩, hj⟩
      exact absurd (Tr.home b hb) (hj hs.length (by omega))
def sp_Tree_init (K : PySem.W.Frag) : Sp := fun vs H Q _ => ∃ (p dx a : Addr) (hs : List Nat), vs = [.ref p, .ref a] ∧ H p = some (.ins (cTree K) dx []) ∧ SqT K H a (vns hs) ∧ TreeOk hs ∧ ∀ H', ExB p H H' → H' p = some (.ins (cTree K) dx [("hung", .ref a)]) → Q .non H'
theorem ok_Tree_init (T : Txt K mg) : Maker P w K mg base 3 "Tree" (cTree K) ["self", "hung"] (sp_Tree_init K) := by
  refine maker_mk T.f_Tree_init T.gTree T.mkTree (fun fd F => ?_) (fun _ _ _ _ _ _ us hl => match us, hl with | [_, _], _ => rfl)
  refine F.ok sc_Tree_init (fun vs H Q E h => ?_) (fun cdv A outer s H vs Q E hr h => ?_)
  · obtain ⟨p, dx, a, hs, rfl, _⟩ := h; rfl
  · obtain ⟨p, dx, a, hs, rfl, hp, hS, Tr, q⟩ := h
    have h40 := Tr.n40
    have h1 := Tr.n1
    refine ⟨_, (pss_cons (ps_if (PW.pt (pw_or (pt_not (pt_val (pe_callB call_isi (by rfl) T.n_isinstance (by decide +kernel) (pa_cons (pv 1) (pa_cons (pe_bltn (v := .ty "tuple") (by rfl) T.n_tuple (by decide +kernel) rfl) pa_nil))))) (pw_or1 (pt_not (pt_chain op_le op_le pe_int (pe_callB call_len_seq (by rfl) T.n_len PySem.boot_len (pa_cons (pv 1) pa_nil)) (pe_gi (by rfl) T.MOST_BLOCKS)))))) (pss_one ps_never) pss_nil)
      (pss_cons (ps_for PassesOwn.never rfl (pi_range2 (by rfl) T.n_range (pa_cons pe_int (pa_cons (pe_op op_add (pe_callB call_len_seq (by rfl) T.n_len PySem.boot_len (pa_cons (pv 1) pa_nil)) pe_int) pa_nil))) (pg_name (i := 2) sc_Tree_init.nd rfl (Or.inl rfl))
        (pss_one (ps_if (PW.pt (pw_or (pt_not (pt_val (pe_cal (ok_is_within T) (hr.mono (by decide)) (by rfl) (pa_cons (pe_ix ix_tup (pv 1) (pe_op op_sub (pv 2) pe_int) (fun _ _ => rfl)) (pa_cons pe_int (pa_cons (pe_callB call_len_seq (by rfl) T.n_len PySem.boot_len (pa_cons (pv 1) pa_nil)) pa_nil)))))) (pw_or1 (pt_cmpR op_eq (pe_ix ix_tup (pv 1) (pe_op op_sub (pv 2) pe_int) (fun _ _ => rfl)) (pv 2) (nomark _))))) (pss_one ps_never) pss_nil)))
      (pss_cons (ps_for PassesOwn.never rfl (pi_range2 (by rfl) T.n_range (pa_cons pe_int (pa_cons (pe_op op_add (pe_callB call_len_seq (by rfl) T.n_len PySem.boot_len (pa_cons (pv 1) pa_nil)) pe_int) pa_nil))) (pg_name (i := 2) sc_Tree_init.nd rfl (Or.inl rfl))
        (pss_one (ps_if (pt_not (pt_val (pe_cal (ok_leads_home T) (hr.mono (by decide)) (by rfl) (pa_cons (pv 1) (pa_cons (pv 2) pa_nil))))) (pss_one ps_never) pss_nil)))
      (pss_one (ps_fld (pv 0) (pv 1) rfl))))), ?_⟩
    refine ⟨_, rfl, _, _, _, _, true, rfl, .ty _, ty_tup hS, kit_ty (by decide +kernel), true, rfl, iteF ?_⟩
    refine ⟨.ref a, rfl, a, _, rfl, .inr hS, _, _, rfl, rfl, _, rfl, ite2 (fun h => ?_) (fun h => absurd (decide_eq_true (by rw [List.length_map]; omega)) h)⟩
    refine ⟨_, _, rfl, rfl, _, rfl, ?_⟩
    refine ite2 (fun h2 => ?_) (fun _ => ?_)
    · exfalso
      have h3 : ¬ ((vns hs).length : Int) ≤ 40 := by simpa using h2
      rw [List.length_map] at h3
      omega
    refine ⟨.ref a, rfl, a, _, rfl, .inr hS, _, _, rfl, rfl, _, _, rfl, ⟨by omega, by omega, ?_, ?_⟩, ?_⟩
    · rw [List.length_map]; omega
    · rw [List.length_map]; omega
    refine forR1 (n := hs.length) (by rw [List.length_map]; omega) (fun i σ H' => Ex H H' ∧ ∃ y, σ = [some (.ref p), some (.ref a), y]) ⟨Ex.refl H, none, rfl⟩ ?_ ?_
    · rintro i σ H' hi ⟨e, y, rfl⟩
      have hS' := ex_t e hS
      have hi0 : i + 1 ≠ 0 := by omega
      refine ⟨.ref a, rfl, _, rfl, _, _, rfl, rfl, a, _, _, _, rfl, rfl, hS', at_par hi0 (by omega), .ref a, rfl, a, _, rfl, .inr hS', par hs (i + 1), 0, _, rfl, fun H2 e2 => ?_⟩
      have hle := Tr.le (i + 1)
      refine ⟨true, ?_, iteF ?_⟩
      · rw [decide_eq_true (by rw [List.length_map]; omega)]
      have hS2 := ex_t e2 hS'
      refine ⟨.ref a, rfl, _, rfl, _, _, rfl, rfl, a, _, _, _, rfl, rfl, hS2, at_par hi0 (by omega), _, rfl, rfl, _, rfl, ?_⟩
      refine ite2 (fun h => ?_) (fun h => ?_)
      · have h := vI_eq.mp (of_decide_eq_true h)
        have := Tr.nocyc (b := i + 1) (k := 0) (by omega) h
        omega
      · exact ⟨e.trans e2, _, rfl⟩
    · rintro σ H' ⟨e, y, rfl⟩
      have hS' := ex_t e hS
      refine ⟨.ref a, rfl, a, _, rfl, .inr hS', _, _, rfl, rfl, _, _, rfl, ⟨by omega, by omega, ?_, ?_⟩, ?_⟩
      · rw [List.length_map]; omega
      · rw [List.length_map]; omega
      refine forR1 (n := hs.length) (by rw [List.length_map]; omega) (fun i σ H' => Ex H H' ∧ ∃ y, σ = [some (.ref p), some (.ref a), y]) ⟨e, _, rfl⟩ ?_ ?_
      · rintro i σ H' hi ⟨e, y, rfl⟩
        refine ⟨_, rfl, _, rfl, a, hs, i + 1, rfl, ex_t e hS, Tr, by omega, fun H2 e2 => ⟨true, rfl, iteF ?_⟩⟩
        exact ⟨e.trans e2, _, rfl⟩
      · rintro σ H' ⟨e, y, rfl⟩
        refine ⟨_, rfl, _, rfl, p, cTree K, dx, [], rfl, e _ _ hp, T.clTree, T.naTree_hung, (by decide), ?_⟩
        refine q _ (fun b o hb hbo => ?_) upd_same
        rw [upd_ne hb]
        exact e _ _ hbo
/-- a Tree object -/
def TreeAt (K : PySem.W.Frag) (H : Hp) (v : V) (hs : List Nat) : Prop := ∃ x dx a, v = .ref x ∧ H x = some (.ins (cTree K) dx [("hung", .ref a)]) ∧ SqT K H a (vns hs)
def sp_parents_in (K : PySem.W.Frag) : Sp := fun vs H Q _ => ∃ (a : Addr) (hs : List Nat) (b : Nat), vs = [.ref a, VI b] ∧ SqT K H a (vns hs) ∧ TreeOk hs ∧ b ≤ hs.length ∧ ∀ l H', H l = none → Ex H H' → H' l = some (.lst (vns (chainF hs b))) → Q (.ref l) H'
theorem ok_parents_in (T : Txt K mg) : Callee P w K mg base 1 "parents_in" ["hung", "place"] (sp_parents_in K) := by
  refine callee_mk T.f_parents_in T.g_parents_in (fun fd F => ?_) (fun _ _ _ _ _ _ us hl => match us, hl with | [_, _], _ => rfl)
  refine F.ok sc_parents_in (fun vs H Q E h => ?_) (fun cdv A outer s H vs Q E hr h => ?_)
  · obtain ⟨a, hs, b, rfl, _⟩ := h; rfl
  · obtain ⟨a, hs, b, rfl, hS, Tr, hb, q⟩ := h
    have h40 := Tr.n40
    refine ⟨_, (pss_cons (ps_set (i := 2) sc_parents_in.nd rfl (Or.inl rfl) (pe_lst pa_nil))
      (pss_cons (ps_set (i := 3) sc_parents_in.nd rfl (Or.inl rfl) (pv 1))
      (pss_cons (ps_while PassesOwn.never (pt_cmpR op_ne (pv 3) (pe_gi (by rfl) T.HEAD) (nomark _)) (pss_cons (ps_set (i := 3) sc_parents_in.nd rfl (Or.inl rfl) (pe_ix ix_tup (pv 0) (pe_op op_sub (pv 3) pe_int) (fun _ _ => rfl)))
      (pss_one (ps_expr (pe_bm PySem.F.plainAttrs_list PySem.F.slot_list_append PySem.F.type_list_append mt_append (pv 2) (pa_cons (pv 3) pa_nil))))))
      (pss_one (ps_ret (pv 2)))))), ?_⟩
    refine ⟨Nat.zero_le _, fun l hl => ?_⟩
    refine ⟨_, rfl, fun m σ H' => ∃ (x : Nat) (acc : List Nat), σ = [some (.ref a), some (VI b), some (.ref l), some (VI x)] ∧ Ex H H' ∧ H' l = some (.lst (vns acc)) ∧ up hs m x = 0 ∧ x ≤ hs.length ∧ acc ++ chain hs m x = chainF hs b ∧ acc.length + m ≤ hs.length,
      ⟨hs.length, b, [], rfl, Ex.new hl, upd_same, Tr.home b hb, hb, rfl, by simp⟩, ?_⟩
    rintro m σ H' ⟨x, acc, rfl, e, hL, hu, hx, hc, hm⟩
    refine ⟨_, rfl, rfl, _, rfl, ?_⟩
    have ed : (!decide (V.int (x : Int) = V.int 0)) = decide (x ≠ 0) := by
      rw [show (V.int 0) = V.int ((0 : Nat) : Int) from rfl, dec_vI]; simp
    rw [ed]
    refine ite2 (fun h => ?_) (fun h => ?_)
    · have h := of_decide_eq_true h
      cases m with
      | zero => exact absurd hu h
      | succ m =>
        have hc' : chain hs (m + 1) x = par hs x :: chain hs m (par hs x) := by
          show (if x = 0 then [] else par hs x :: chain hs m (par hs x)) = _
          rw [if_neg h]
        rw [hc'] at hc
        refine ⟨fun σ' H2 => ∃ (x' : Nat) (acc' : List Nat), σ' = [some (.ref a), some (VI b), some (.ref l), some (VI x')] ∧ Ex H H2 ∧ H2 l = some (.lst (vns acc')) ∧ up hs m x' = 0 ∧ x' ≤ hs.length ∧ acc' ++ chain hs m x' = chainF hs b ∧ acc'.length + m ≤ hs.length, fun σ' H2 hN => ⟨m, Nat.lt_succ_self m, hN⟩, ?_⟩
        refine ⟨.ref a, rfl, _, rfl, _, _, rfl, rfl, a, _, _, _, rfl, rfl, ex_t e hS, at_par h hx, ?_⟩
        refine ⟨.ref l, rfl, .inl ⟨rfl, _, .inl (.inl hL)⟩, _, rfl, l, _, _, rfl, rfl, hL, sz_lt (by rw [List.length_map]; omega), ?_⟩
        refine ⟨par hs x, acc ++ [par hs x], rfl, Ex.mut e hl, ?_, hu, Tr.le x, ?_, ?_⟩
        · rw [upd_same, vns_app]; rfl
        · rw [List.append_assoc]; exact hc
        · rw [List.length_append, List.length_singleton]; omega
    · have h : x = 0 := Decidable.of_not_not fun z => h (decide_eq_true z)
      subst h
      rw [chain_zero, List.append_nil] at hc
      refine ⟨.ref l, rfl, ?_⟩
      exact q l H' hl e (by rw [hL, hc])
def sp_hanging (K : PySem.W.Frag) : Sp := fun vs H Q _ => ∃ (a : Addr) (hs : List Nat) (b : Nat), vs = [.ref a, VI b] ∧ SqT K H a (vns hs) ∧ hs.length ≤ 1000 ∧ ∀ l H', H l = none → Ex H H' → H' l = some (.lst (vns (hangF hs b))) → Q (.ref l) H'
theorem ok_hanging (T : Txt K mg) : Callee P w K mg base 1 "hanging" ["hung", "place"] (sp_hanging K) := by
  refine callee_mk T.f_hanging T.g_hanging (fun fd F => ?_) (fun _ _ _ _ _ _ us hl => match us, hl with | [_, _], _ => rfl)
  refine F.ok sc_hanging (fun vs H Q E h => ?_) (fun cdv A outer s H vs Q E hr h => ?_)
  · obtain ⟨a, hs, b, rfl, _⟩ := h; rfl
  · obtain ⟨a, hs, b, rfl, hS, h40, q⟩ := h
    refine ⟨_, (pss_one (ps_ret (pe_lc (own := [("block", 2)]) (g := (gName 2))  (by rfl) sc_hanging.nd (pi_range2 (by rfl) T.n_range (pa_cons pe_int (pa_cons (pe_op op_add (pe_callB call_len_seq (by rfl) T.n_len PySem.boot_len (pa_cons (pv 0) pa_nil)) pe_int) pa_nil))) (blkOk_by (own := [("block", 2)]) (N := N_hanging) (sc := defScope s_hanging) (by decide +kernel)) (fun _ _ _ _ _ => (pg_name (i := 2) sc_hanging.nd rfl (Or.inl rfl))) (fun _ _ _ _ _ => (pts_one (pt_cmpR op_eq (pe_ix (ix_tup_K K) (pv 0) (pe_op op_sub (pv 2) pe_int) (fun _ _ => rfl)) (pv 1) (nomark _)))) (fun _ _ _ _ _ => (pv 2))))), ?_⟩
    refine ⟨.ref a, rfl, a, _, rfl, .inr hS, _, _, rfl, rfl, _, _, rfl, ⟨by omega, by omega, ?_, ?_⟩, ?_⟩
    · rw [List.length_map]; omega
    · rw [List.length_map]; omega
    refine lcR1 (n := hs.length) (by rw [List.length_map]; omega) (f := fun i => decide (par hs (i + 1) = b)) (E := fun i y _ => y = VI (i + 1)) (fun _ => mono_eq) (by omega) (fun D i H' hD e hys hi Qy Qn qy qn => ?_) (fun D ys H2 hD e hy hp => ?_)
    · refine ⟨rfl, .ref a, rfl, _, rfl, _, _, rfl, rfl, a, _, _, _, rfl, rfl, ex_t e hS, at_par (show i + 1 ≠ 0 by omega) (by omega), _, rfl, rfl, _, rfl, ?_⟩
      rw [dec_vI]
      refine ite2 (fun h => ?_) (fun h => ?_)
      · exact ⟨_, rfl, qy _ _ (Ex.refl _) h rfl⟩
      · exact qn _ (by simpa using h) (Ex.refl _)
    · refine q D H2 hD e ?_
      rw [hy, paired_eq (f := fun i => VI (i + 1)) hp]
      unfold hangF vns
      rw [List.map_map]
      rfl
end
end Fv
end
section
/-! what places tell -/
namespace Fv
open PySem PySem.Spec PyProof.Rows L2 Evl
theorem nextL_snoc {hs l : List Nat} {j x : Nat} (h : l[j]? = some x) : nextL hs (l.take (j + 1)) = nextL hs (l.take j) ++ (hangF hs x).map fun b => (b, x) := by
  rw [List.take_add_one, h]
  unfold nextL
  rw [List.flatMap_append]
  congr 1
  show ((hangF hs x).map fun b => (b, x)) ++ [] = _
  rw [List.append_nil]
theorem filter_true {n : Nat} : (List.range n).filter (fun _ => true) = List.range n := List.filter_eq_self.mpr fun _ _ => rfl
theorem range_map_at {α : Type} {l : List α} {f : Nat → α} (h : ∀ i x, l[i]? = some x → f i = x) : (List.range l.length).map f = l := by
  refine List.ext_getElem? fun i => ?_
  rw [List.getElem?_map]
  by_cases hi : i < l.length
  · rw [List.getElem?_range hi, Option.map_some, h i l[i] (List.getElem?_eq_getElem hi), List.getElem?_eq_getElem hi]
  · rw [List.getElem?_eq_none (by rw [List.length_range]; omega), List.getElem?_eq_none (by omega)]; rfl
/-- items by places, then as a list of pairs -/
theorem paired_range {α : Type} {F : α → V → Prop} : ∀ {l : List α} {ys : List V}, Paired (fun i y => ∀ a, l[i]? = some a → F a y) (List.range l.length) ys → Paired F l ys := by
  intro l ys h
  have hl : l.length = ys.length := by have := paired_len h; rwa [List.length_range] at this
  have key : ∀ (i : Nat) (a : α) (y : V), l[i]? = some a → ys[i]? = some y → F a y := by
    intro i a y ha hy
    obtain ⟨j, hj, hF⟩ := paired_at h hy
    obtain ⟨h1, h2⟩ := List.getElem?_eq_some_iff.mp hj
    rw [List.getElem_range] at h2
    subst h2
    exact hF a ha
  clear h
  induction l generalizing ys with
  | nil =>
    cases ys with
    | nil => exact .nil
    | cons y r => cases hl
  | cons a l ih =>
    cases ys with
    | nil => cases hl
    | cons y r => exact .cons (key 0 a y rfl rfl) (ih (by simpa using hl) fun i b z hb hz => key (i + 1) b z hb hz)
theorem layer_len {hs : List Nat} {p : Nat} (T : TreeOk hs) (hp : p ≤ hs.length) (i : Nat) : (layerAt hs p i).length ≤ hs.length + 1 := by
  cases i with
  | zero => show 1 ≤ _; omega
  | succ i =>
    have h := found_len T hp (i + 1)
    have e : (foundAt hs p (i + 1)).length = (foundAt hs p i).length + (nextL hs (layerAt hs p i)).length := by
      show (foundAt hs p i ++ nextL hs (layerAt hs p i)).length = _
      rw [List.length_append]
    show ((nextL hs (layerAt hs p i)).map (·.1)).length ≤ _
    rw [List.length_map]
    omega
theorem next_len {hs : List Nat} {p : Nat} (T : TreeOk hs) (hp : p ≤ hs.length) (i : Nat) : (nextL hs (layerAt hs p i)).length ≤ hs.length := by
  have h := found_len T hp (i + 1)
  have e : (foundAt hs p (i + 1)).length = (foundAt hs p i).length + (nextL hs (layerAt hs p i)).length := by
    show (foundAt hs p i ++ nextL hs (layerAt hs p i)).length = _
    rw [List.length_append]
  omega
theorem nextL_take_len {hs l : List Nat} : ∀ j, (nextL hs (l.take j)).length ≤ (nextL hs l).length := fun j => by
  have e : nextL hs l = nextL hs (l.take j) ++ nextL hs (l.drop j) := by
    unfold nextL
    rw [← List.flatMap_append, List.take_append_drop]
  rw [e, List.length_append]
  omega
section
variable {P : Program} {w : World} {K : PySem.W.Frag} {mg : Str → Option Value} {base : Heap}
def sp_ties_down (K : PySem.W.Frag) : Sp := fun vs H Q _ => ∃ (a : Addr) (hs : List Nat) (p s : Nat), vs = [.ref a, VI p, VI s] ∧ SqT K H a (vns hs) ∧ TreeOk hs ∧ p ≤ hs.length ∧ s ≤ 4 ∧ ∀ t ys H', Ex H H' → H' t = some (.tup ys) → PT (tiesC hs s p) ys H' → Q (.ref t) H'
theorem ok_ties_down (T : Txt K mg) : Callee P w K mg base 2 "ties_down" ["hung", "place", "steps"] (sp_ties_down K) := by
  refine callee_mk T.f_ties_down T.g_ties_down (fun fd F => ?_) (fun _ _ _ _ _ _ us hl => match us, hl with | [_, _, _], _ => rfl)
  refine F.ok sc_ties_down (fun vs H Q E h => ?_) (fun cdv A outer s H vs Q E hr h => ?_)
  · obtain ⟨a, hs, p, s, rfl, _⟩ := h; rfl
  · obtain ⟨a, hs, p, st, rfl, hS, Tr, hp, hs4, q⟩ := h
    have h40 := Tr.n40
    refine ⟨_, (pss_cons (ps_set (i := 3) sc_ties_down.nd rfl (Or.inl rfl) (pe_lst pa_nil))
      (pss_cons (ps_set (i := 4) sc_ties_down.nd rfl (Or.inl rfl) (pe_lst (pa_cons (pv 1) pa_nil)))
      (pss_cons (ps_for PassesOwn.never rfl (pi_range1 (by rfl) T.n_range (pa_cons (pv 2) pa_nil)) (pg_name (i := 5) sc_ties_down.nd rfl (Or.inl rfl))
        (pss_cons (ps_set (i := 6) sc_ties_down.nd rfl (Or.inl rfl) (pe_lst pa_nil))
      (pss_cons (ps_for PassesOwn.never rfl (pi_list (pv 4)) (pg_name (i := 7) sc_ties_down.nd rfl (Or.inr rfl))
        (pss_one (ps_expr (pe_bm PySem.F.plainAttrs_list PySem.F.slot_list_extend PySem.F.type_list_extend mt_extend (pv 6) (pa_cons (pe_lc (own := [("block", 8)]) (g := (gName 8)) (tt := tYes) (by rfl) sc_ties_down.nd (pi_list (pe_cal (ok_hanging T) (hr.mono (by decide)) (by rfl) (pa_cons (pv 0) (pa_cons (pv 7) pa_nil)))) (blkOk_by (own := [("block", 8)]) (N := N_ties_down) (sc := defScope s_ties_down) (by decide +kernel)) (fun _ _ _ _ _ => (pg_name (i := 8) sc_ties_down.nd rfl (Or.inl rfl))) (fun _ _ _ _ _ => pts_nil) (fun _ _ _ _ _ => (pe_tup (pa_cons (pv 8) (pa_cons (pv 7) pa_nil))))) pa_nil)))))
      (pss_cons (ps_expr (pe_bm PySem.F.plainAttrs_list PySem.F.slot_list_extend PySem.F.type_list_extend mt_extend (pv 3) (pa_cons (pv 6) pa_nil)))
      (pss_one (ps_setLc (i := 4) (own := [("block", 8), ("here", 7)]) (g := (gTup K 2 (gCons (gName 8) (gCons (gName 7) gNil)))) (tt := tYes) (by rfl) sc_ties_down.nd rfl rfl (sw_true rfl rfl rfl (by decide +kernel)) (pi_list (pv 6)) (blkOk_by (own := [("block", 8), ("here", 7)]) (N := N_ties_down) (sc := defScope s_ties_down) (by decide +kernel)) (fun _ _ _ _ _ => (pg_tup (by rfl) (pgs_cons (pg_name (i := 8) sc_ties_down.nd rfl (Or.inl rfl)) (pgs_cons (pg_name (i := 7) sc_ties_down.nd rfl (Or.inl rfl)) pgs_nil)))) (fun _ _ _ _ _ => pts_nil) (fun _ _ _ _ _ => (pv 8))))))))
      (pss_one (ps_ret (pe_callTy call_tuple_of (by rfl) T.n_tuple (by decide +kernel) (pa_cons (pe_callB cr_sortedPO (by rfl) T.n_sorted (by decide +kernel) (pa_cons (pv 3) pa_nil)) pa_nil))))))), ?_⟩
    refine ⟨Nat.zero_le _, fun lf hlf => ?_⟩
    refine ⟨_, rfl, (by show 1 ≤ sizeLine; decide), fun ll hll => ?_⟩
    have nfl : lf ≠ ll := fun z => by rw [← z, upd_same] at hll; cases hll
    have hll0 : H ll = none := by rw [upd_ne nfl.symm] at hll; exact hll
    refine ⟨_, rfl, _, rfl, by omega, by omega, ?_⟩
    refine forR0 (n := st) (by omega) (fun i σ H' => ∃ (ll : Addr) (v5 v6 v7 v8 : Option V) (fs : List V), σ = [some (.ref a), some (VI p), some (VI st), some (.ref lf), some (.ref ll), v5, v6, v7, v8] ∧ Ex H H' ∧ H' lf = some (.lst fs) ∧ PT (foundAt hs p i) fs H' ∧ H' ll = some (.lst (vns (layerAt hs p i))) ∧ lf ≠ ll)
      ⟨ll, none, none, none, none, [], rfl, (Ex.new hlf).mut hll0, by rw [upd_ne nfl, upd_same], .nil, upd_same, nfl⟩ ?_ ?_
    · rintro i σ H1 hi ⟨ll, v5, v6, v7, v8, fs, rfl, e1, hF, pF, hL, nfl⟩
      refine ⟨Nat.zero_le _, fun lt hlt => ?_⟩
      have ntf : lt ≠ lf := (ne_of_none hF hlt).symm
      have ntl : lt ≠ ll := (ne_of_none hL hlt).symm
      have hL2 : (upd H1 lt (.lst [])) ll = some (.lst (vns (layerAt hs p i))) := by rw [upd_ne ntl.symm]; exact hL
      refine ⟨.ref ll, rfl, ll, rfl, ⟨_, .inl (.inl hL2)⟩, ?_⟩
      refine for_list (K := K) (xs := vns (layerAt hs p i)) (fun j σ H' => ∃ (v7 v8 : Option V) (zs : List V), σ = [some (.ref a), some (VI p), some (VI st), some (.ref lf), some (.ref ll), some (VI i), some (.ref lt), v7, v8] ∧ Ex H1 H' ∧ H' lt = some (.lst zs) ∧ PT (nextL hs ((layerAt hs p i).take j)) zs H')
        ⟨v7, v8, [], rfl, Ex.new hlt, upd_same, .nil⟩ (fun j σ H' hj ⟨_, _, _, _, e, _⟩ => .inl (.inl (e _ _ hL))) ?_ ?_
      · rintro j y σ H2 hy ⟨v7, v8, zs, rfl, e2, hT, pT⟩
        obtain ⟨x, hx, rfl⟩ := vns_at hy
        have hxl : x ≤ hs.length := layer_le hp (List.mem_of_getElem? hx)
        refine ⟨.ref lt, rfl, .inl ⟨rfl, _, .inl (.inl hT)⟩, ?_⟩
        refine ⟨.ref a, rfl, VI x, rfl, a, hs, x, rfl, ex_t (e1.trans e2) hS, by omega, fun lh H3 hlh e3 hH => ?_⟩
        refine ⟨lh, rfl, ⟨_, .inl (.inl hH)⟩, ?_⟩
        refine lcL (K := K) (xs := vns (hangF hs x)) (.inl (.inl hH)) (f := fun _ => true) (E := fun k y H => ∀ b, (hangF hs x)[k]? = some b → ∃ t, y = .ref t ∧ H t = some (.tup [VI b, VI x])) (fun k y H H' e h b hb => let ⟨t, h1, h2⟩ := h b hb; ⟨t, h1, e _ _ h2⟩) (by rw [List.length_map]; have := hangF_len hs x; omega) (fun D k z H4 hD e4 hys hz Qy Qn qy qn => ?_) (fun D ys H4 hD e4 hy4 hp4 => ?_)
        · obtain ⟨b, hb, rfl⟩ := vns_at hz
          obtain ⟨ys, hys⟩ := hys
          refine yes_go rfl ?_
          refine ⟨_, rfl, _, rfl, (by show 2 ≤ sizeLine; decide), fun t ht => ?_⟩
          refine qy _ _ (Ex.new ht) rfl (fun b' hb' => ⟨t, rfl, ?_⟩)
          rw [hb] at hb'
          cases hb'
          rw [del_ne (ne_of_none hys ht).symm, upd_same]
        · rw [filter_true, List.length_map] at hp4
          have pD : PT ((hangF hs x).map fun b => (b, x)) ys H4 := by
            have h5 := paired_range (F := fun b y => ∃ t, y = .ref t ∧ (del H4 D) t = some (.tup [VI b, VI x])) hp4
            exact PT.mono ex_del (paired_map (f := fun b => (b, x)) (F := fun (p : Nat × Nat) y => ∃ t, y = .ref t ∧ (del H4 D) t = some (.tup [VI p.1, VI p.2])) h5)
          have hT4 : H4 lt = some (.lst zs) := e4 _ _ (e3 _ _ hT)
          refine ⟨lt, D, zs, ys, rfl, rfl, hT4, hy4, sz_of ?_, ?_⟩
          · rw [← paired_len pD, List.length_map, ← paired_len pT]
            have h1 := nextL_take_len (hs := hs) (l := layerAt hs p i) j
            have h2 := next_len Tr hp i
            have h3 := hangF_len hs x
            omega
          · refine ⟨_, _, zs ++ ys, rfl, Ex.mut ((e2.trans e3).trans e4) hlt, upd_same, ?_⟩
            rw [nextL_snoc hx]
            exact PT.app ((pT.mono (e3.trans e4)).upd hT4) (pD.upd hT4)
      · rintro σ H2 ⟨v7, v8, zs, rfl, e2, hT, pT⟩
        rw [List.length_map, List.take_length] at pT
        have hF2 : H2 lf = some (.lst fs) := e2 _ _ hF
        refine ⟨.ref lf, rfl, .inl ⟨rfl, _, .inl (.inl hF2)⟩, .ref lt, rfl, lf, lt, fs, zs, rfl, rfl, hF2, hT, sz_of ?_, ?_⟩
        · rw [← paired_len pF, ← paired_len pT]
          have h1 := found_len Tr hp i
          have h2 := next_len Tr hp i
          omega
        have hT3 : (upd H2 lf (.lst (fs ++ zs))) lt = some (.lst zs) := by rw [upd_ne ntf]; exact hT
        have pT3 := pT.upd (o := .lst (fs ++ zs)) hF2
        refine ⟨.ref lt, rfl, lt, rfl, ⟨_, .inl (.inl hT3)⟩, ?_⟩
        refine lcL (K := K) (xs := zs) (.inl (.inl hT3)) (f := fun _ => true) (E := fun k y H => ∀ q, (nextL hs (layerAt hs p i))[k]? = some q → y = VI q.1) (fun k y H H' e h => h) (by rw [← paired_len pT]; have := next_len Tr hp i; omega) (fun D k z H4 hD e4 hys hz Qy Qn qy qn => ?_) (fun D ys H4 hD e4 hy4 hp4 => ?_)
        · obtain ⟨⟨b, h⟩, hb, t, rfl, ht⟩ := paired_at (pT3.mono e4) hz
          refine ⟨t, _, rfl, .inl (.inl ht), rfl, VI b, [VI h], rfl, VI h, [], rfl, rfl, ?_⟩
          refine yes_go rfl ?_
          refine ⟨VI b, rfl, qy _ _ (Ex.refl _) rfl (fun q hq => ?_)⟩
          rw [hb] at hq
          cases hq
          rfl
        · rw [filter_true, ← paired_len pT] at hp4
          have h5 := paired_range (F := fun (q : Nat × Nat) y => y = VI q.1) hp4
          have eY := paired_eq (f := fun q : Nat × Nat => VI q.1) h5
          have hF4 : H4 lf = some (.lst (fs ++ zs)) := e4 _ _ upd_same
          refine ⟨D, _, _, _, _, fs ++ zs, rfl, ?_, hF4, ?_, ?_, ?_⟩
          · exact fun b o hb => e4 b o (by rw [upd_ne (ne_of_none hb hlf)]; exact e2 _ _ (e1 _ _ hb))
          · exact PT.app ((pF.mono e2).upd hF2 |>.mono e4) (pT3.mono e4)
          · rw [hy4, eY]
            show some (HO.lst (List.map (fun q : Nat × Nat => VI q.1) (nextL hs (layerAt hs p i)))) = some (HO.lst (vns ((nextL hs (layerAt hs p i)).map (·.1))))
            unfold vns
            rw [List.map_map]
            rfl
          · intro z
            rw [← z, upd_same] at hD
            cases hD
    · rintro σ H1 ⟨ll, v5, v6, v7, v8, fs, rfl, e1, hF, pF, hL, nfl⟩
      refine ⟨.ref lf, rfl, lf, fs, kOf H1, rfl, .inl (.inl hF), kOf_ok pF, fun ys ls hsrt hstb hls => ?_⟩
      have pY : PT (tiesC hs st p) ys H1 := sort_pairs pF (found_perm Tr hp st) (tiesC_sorted hs st p) (kOf_ok pF) hsrt hstb.perm
      refine ⟨ls, ys, rfl, .inl ⟨.inl (.inl upd_same), fun t ht => ?_⟩⟩
      exact q t ys _ ((e1.trans (Ex.new hls)).trans (Ex.new ht)) upd_same ((pY.mono (Ex.new hls)).mono (Ex.new ht))
end
end Fv
end
section
/-! tellings, distance -/
namespace Fv
open PySem PySem.Spec PyProof.Rows L2 Evl
/-! ### a telling as data -/
abbrev Tel := List Nat × List (Nat × Nat)
def intsD (l : List Nat) : List PyData := l.map fun n : Nat => PyData.int (n : Int)
def pairD (p : Nat × Nat) : PyData := .tuple [.int (p.1 : Int), .int (p.2 : Int)]
def telD (t : Tel) : PyData := .tuple [.tuple (intsD t.1), .tuple (t.2.map pairD)]
theorem intsD_lay : ∀ l, PyData.canLayAll0 (intsD l) = true
  | [] => by simp only [intsD, List.map_nil, PyData.canLayAll0]
  | n :: r => by
    have h := intsD_lay r
    unfold intsD at h ⊢
    simp only [List.map_cons, PyData.canLayAll0, PyData.canLay0, Bool.true_and]
    exact h
theorem intsD_depth : ∀ l, PyData.depthAll (intsD l) ≤ 2
  | [] => by simp only [intsD, List.map_nil, PyData.depthAll]; omega
  | n :: r => by
    have h := intsD_depth r
    unfold intsD at h ⊢
    simp only [List.map_cons, PyData.depthAll, PyData.depth]
    omega
theorem pairs_lay : ∀ l : List (Nat × Nat), PyData.canLayAll0 (l.map pairD) = true
  | [] => by simp only [List.map_nil, PyData.canLayAll0]
  | n :: r => by
    have h := pairs_lay r
    simp only [List.map_cons, pairD, PyData.canLayAll0, PyData.canLay0, Bool.true_and] at h ⊢
    exact h
theorem pairs_depth : ∀ l : List (Nat × Nat), PyData.depthAll (l.map pairD) ≤ 4
  | [] => by simp only [List.map_nil, PyData.depthAll]; omega
  | n :: r => by
    have h := pairs_depth r
    simp only [List.map_cons, pairD, PyData.depthAll, PyData.depth] at h ⊢
    omega
theorem telD_shaped (t : Tel) : SeqAt.shaped (telD t) = true := by
  show ((telD t).canLay0 && decide ((telD t).depth ≤ 64)) = true
  rw [Bool.and_eq_true]
  refine ⟨?_, decide_eq_true ?_⟩
  · simp only [telD, PyData.canLay0, PyData.canLayAll0, intsD_lay, pairs_lay, Bool.true_and]
  · have h1 := intsD_depth t.1
    have h2 := pairs_depth t.2
    simp only [telD, PyData.depth, PyData.depthAll]
    omega
theorem telD_refl (t : Tel) : PyData.eqv (telD t) (telD t) = true := SeqAt.eqv_refl _ (SeqAt.canLay_of_shaped (telD_shaped t))
/-- a telling stands at v -/
def TelAt (H : Hp) (v : V) (t : Tel) : Prop := ∃ a r q ys, v = .ref a ∧ H a = some (.tup [.ref r, .ref q]) ∧ H r = some (.tup (vns t.1)) ∧ H q = some (.tup ys) ∧ PT t.2 ys H
theorem TelAt.mono {H H' : Hp} {v : V} {t : Tel} (e : Ex H H') (h : TelAt H v t) : TelAt H' v t := by
  obtain ⟨a, r, q, ys, h1, h2, h3, h4, h5⟩ := h
  exact ⟨a, r, q, ys, h1, e _ _ h2, e _ _ h3, e _ _ h4, h5.mono e⟩
theorem dp_ints {K : PySem.W.Frag} {H : Hp} : ∀ l : List Nat, DpAll K H (vns l) (intsD l)
  | [] => .nil
  | n :: r => .cons (.int _) (dp_ints r)
theorem dp_pairs {K : PySem.W.Frag} {H : Hp} : ∀ {ps : List (Nat × Nat)} {ys : List V}, PT ps ys H → DpAll K H ys (ps.map pairD)
  | _, _, .nil => .nil
  | _, _, .cons ⟨t, h1, h2⟩ r => by
    rw [List.map_cons, h1]
    exact .cons (.tup (.inl (.inl h2)) (.cons (.int _) (.cons (.int _) .nil))) (dp_pairs r)
theorem TelAt.dp {K : PySem.W.Frag} {H : Hp} {v : V} {t : Tel} (h : TelAt H v t) : Dp K H v (telD t) := by
  obtain ⟨a, r, q, ys, rfl, h2, h3, h4, h5⟩ := h
  exact .tup (.inl (.inl h2)) (.cons (.tup (.inl (.inl h3)) (dp_ints _)) (.cons (.tup (.inl (.inl h4)) (dp_pairs h5)) .nil))
theorem cut_take (xs : List V) (u : Nat) : cutV xs none (some (u : Int)) = xs.take u := by
  unfold cutV
  rw [HT.sIx_none, HT.sIx_nat, Nat.sub_zero]
  show (xs.drop 0).take (min u xs.length) = xs.take u
  rw [List.drop_zero]
  by_cases h : u ≤ xs.length
  · rw [Nat.min_eq_left h]
  · rw [Nat.min_eq_right (by omega), List.take_length, List.take_of_length_le (by omega)]
theorem cut_drop (xs : List V) (k : Nat) : cutV xs (some (k : Int)) none = xs.drop k := by
  unfold cutV
  rw [HT.sIx_none, HT.sIx_nat]
  by_cases h : k ≤ xs.length
  · rw [Nat.min_eq_left h]
    exact List.take_of_length_le (by rw [List.length_drop]; exact Nat.le_refl _)
  · rw [Nat.min_eq_right (by omega), List.drop_length, List.drop_of_length_le (by omega)]
    exact List.take_nil
def distF (u d : Nat) : Nat := if 0 < d then d + 1 + (if 0 < u then 1 else 0) else (if 0 < u then 1 else 0)
section
variable {P : Program} {w : World} {K : PySem.W.Frag} {mg : Str → Option Value} {base : Heap}
def sp_raw_telling (K : PySem.W.Frag) : Sp := fun vs H Q _ => ∃ (a va : Addr) (hs : List Nat) (u d p : Nat), vs = [.ref a, .ref va, VI p] ∧ SqT K H a (vns hs) ∧ SqT K H va [VI u, VI d] ∧ TreeOk hs ∧ p ≤ hs.length ∧ d ≤ 4 ∧ ∀ v H', Ex H H' → TelAt H' v (tel hs u d p) → Q v H'
theorem ok_raw_telling (T : Txt K mg) : Callee P w K mg base 3 "raw_telling" ["hung", "view", "place"] (sp_raw_telling K) := by
  refine callee_mk T.f_raw_telling T.g_raw_telling (fun fd F => ?_) (fun _ _ _ _ _ _ us hl => match us, hl with | [_, _, _], _ => rfl)
  refine F.ok sc_raw_telling (fun vs H Q E h => ?_) (fun cdv A outer s H vs Q E hr h => ?_)
  · obtain ⟨a, va, hs, u, d, p, rfl, _⟩ := h; rfl
  · obtain ⟨a, va, hs, u, d, p, rfl, hS, hV, Tr, hp, hd4, q⟩ := h
    have h40 := Tr.n40
    refine ⟨_, (pss_one (ps_ret (pe_tup (pa_cons (pe_callTy call_tuple_of (by rfl) T.n_tuple (by decide +kernel) (pa_cons (pe_slice sl_list (pe_cal (ok_parents_in T) (hr.mono (by decide)) (by rfl) (pa_cons (pv 0) (pa_cons (pv 2) pa_nil))) po_none (po_some (pe_ix ix_tup (pv 1) pe_int (fun _ _ => rfl)))) pa_nil)) (pa_cons (pe_cal (ok_ties_down T) (hr.mono (by decide)) (by rfl) (pa_cons (pv 0) (pa_cons (pv 2) (pa_cons (pe_ix ix_tup (pv 1) pe_int (fun _ _ => rfl)) pa_nil)))) pa_nil))))), ?_⟩
    refine ⟨.ref a, rfl, VI p, rfl, a, hs, p, rfl, hS, Tr, hp, fun l H1 hl e1 hL => ?_⟩
    refine ⟨.ref va, rfl, va, _, _, _, rfl, rfl, ex_t e1 hV, atI_nat (j := 0) rfl, _, rfl, l, _, rfl, .inl (.inl hL), fun r0 hr0 => ?_⟩
    rw [cut_take]
    refine ⟨r0, _, rfl, .inl ⟨.inl (.inl upd_same), fun r hr => ?_⟩⟩
    have e2 := (e1.trans (Ex.new hr0)).trans (Ex.new (o := .tup (List.take u (vns (chainF hs p)))) hr)
    refine ⟨.ref a, rfl, VI p, rfl, .ref va, rfl, va, _, _, _, rfl, rfl, ex_t e2 hV, atI_nat (j := 1) rfl, a, hs, p, d, rfl, ex_t e2 hS, Tr, hp, hd4, fun t ys H3 e3 hT pT => ?_⟩
    refine ⟨(by show 2 ≤ sizeLine; decide), fun v hv => ?_⟩
    have e4 := Ex.new (o := .tup [.ref r, .ref t]) hv
    refine q _ _ ((e2.trans e3).trans e4) ⟨v, r, t, ys, rfl, upd_same, ?_, e4 _ _ hT, pT.mono e4⟩
    rw [e4 _ _ (e3 _ _ upd_same)]
    show some (HO.tup (List.take u (vns (chainF hs p)))) = some (HO.tup (vns ((chainF hs p).take u)))
    unfold vns
    rw [List.map_take]
def sp_raw_distance (K : PySem.W.Frag) : Sp := fun vs H Q _ => ∃ (a : Addr) (u d : Nat), vs = [.ref a] ∧ SqT K H a [VI u, VI d] ∧ ∀ H', Ex H H' → Q (VI (distF u d)) H'
theorem ok_raw_distance (T : Txt K mg) : Callee P w K mg base 1 "raw_distance" ["view"] (sp_raw_distance K) := by
  refine callee_mk T.f_raw_distance T.g_raw_distance (fun fd F => ?_) (fun _ _ _ _ _ _ us hl => match us, hl with | [_], _ => rfl)
  refine F.ok sc_raw_distance (fun vs H Q E h => ?_) (fun cdv A outer s H vs Q E hr h => ?_)
  · obtain ⟨a, u, d, rfl, _⟩ := h; rfl
  · obtain ⟨a, u, d, rfl, hV, q⟩ := h
    have q := q H (Ex.refl H)
    refine ⟨_, (pss_cons (ps_asg (pv 0) (pg_tup (by rfl) (pgs_cons (pg_name (i := 1) sc_raw_distance.nd rfl (Or.inl rfl)) (pgs_cons (pg_name (i := 2) sc_raw_distance.nd rfl (Or.inl rfl)) pgs_nil))))
      (pss_cons (ps_set (i := 3) sc_raw_distance.nd rfl (Or.inl rfl) (pe_ifExp (pt_cmpR op_gt (pv 1) pe_int (nomark _)) pe_int pe_int))
      (pss_one (ps_ret (pe_ifExp (pt_cmpR op_gt (pv 2) pe_int (nomark _)) (pe_op op_add (pe_op op_add (pv 2) pe_int) (pv 3)) (pv 3)))))), ?_⟩
    refine ⟨.ref a, rfl, a, _, rfl, hV, rfl, _, _, rfl, _, _, rfl, rfl, ?_⟩
    refine ⟨_, rfl, _, _, rfl, rfl, _, rfl, ite2 (fun h1 => ?_) (fun h1 => ?_)⟩
    all_goals
      refine ⟨_, rfl, _, _, rfl, rfl, _, rfl, ite2 (fun h2 => ?_) (fun h2 => ?_)⟩
    · refine ⟨_, rfl, _, _, rfl, rfl, _, rfl, _, _, rfl, rfl, ?_⟩
      have h1 := of_decide_eq_true h1
      have h2 := of_decide_eq_true h2
      have e : distF u d = d + 1 + 1 := by unfold distF; rw [if_pos (by omega), if_pos (by omega)]
      rw [e] at q
      exact q
    · refine ⟨_, rfl, ?_⟩
      have h1 := of_decide_eq_true h1
      have h2 : ¬ (0 : Int) < (d : Int) := fun z => h2 (decide_eq_true z)
      have e : distF u d = 1 := by unfold distF; rw [if_neg (by omega), if_pos (by omega)]
      rw [e] at q
      exact q
    · refine ⟨_, rfl, _, _, rfl, rfl, _, rfl, _, _, rfl, rfl, ?_⟩
      have h1 : ¬ (0 : Int) < (u : Int) := fun z => h1 (decide_eq_true z)
      have h2 := of_decide_eq_true h2
      have e : distF u d = d + 1 + 0 := by unfold distF; rw [if_pos (by omega), if_neg (by omega)]
      rw [e] at q
      exact q
    · refine ⟨_, rfl, ?_⟩
      have h1 : ¬ (0 : Int) < (u : Int) := fun z => h1 (decide_eq_true z)
      have h2 : ¬ (0 : Int) < (d : Int) := fun z => h2 (decide_eq_true z)
      have e : distF u d = 0 := by unfold distF; rw [if_neg (by omega), if_neg (by omega)]
      rw [e] at q
      exact q
def sp_distance (K : PySem.W.Frag) : Sp := fun vs H Q _ => ∃ (a : Addr) (u d : Nat), vs = [.ref a] ∧ SqT K H a [VI u, VI d] ∧ u ≤ 4 ∧ d ≤ 4 ∧ ∀ H', Ex H H' → Q (VI (distF u d)) H'
theorem ok_distance (T : Txt K mg) : Callee P w K mg base 5 "distance" ["view"] (sp_distance K) := by
  refine callee_mk T.f_distance T.g_distance (fun fd F => ?_) (fun _ _ _ _ _ _ us hl => match us, hl with | [_], _ => rfl)
  refine F.ok sc_distance (fun vs H Q E h => ?_) (fun cdv A outer s H vs Q E hr h => ?_)
  · obtain ⟨a, u, d, rfl, _⟩ := h; rfl
  · obtain ⟨a, u, d, rfl, hV, hu, hd, q⟩ := h
    refine ⟨_, (pss_cons (ps_expr (pe_cal (ok_check_view T) (hr.mono (by decide)) (by rfl) (pa_cons (pv 0) pa_nil)))
      (pss_one (ps_ret (pe_cal (ok_raw_distance T) (hr.mono (by decide)) (by rfl) (pa_cons (pv 0) pa_nil))))), ?_⟩
    refine ⟨_, rfl, a, u, d, rfl, hV, hu, hd, fun H1 e1 => ?_⟩
    exact ⟨_, rfl, a, u, d, rfl, ex_t e1 hV, fun H2 e2 => q H2 (e1.trans e2)⟩
def sp_is_tie (K : PySem.W.Frag) : Sp := fun vs H Q _ => ∃ (t : Addr) (n b h : Nat), vs = [VI n, .ref t] ∧ SqT K H t [VI b, VI h] ∧ 1 ≤ b ∧ b ≤ n ∧ h ≤ n ∧ ∀ H', Ex H H' → Q (.bl true) H'
theorem ok_is_tie (T : Txt K mg) : Callee P w K mg base 3 "is_tie" ["blocks", "thing"] (sp_is_tie K) := by
  refine callee_mk T.f_is_tie T.g_is_tie (fun fd F => ?_) (fun _ _ _ _ _ _ us hl => match us, hl with | [_, _], _ => rfl)
  refine F.ok sc_is_tie (fun vs H Q E h => ?_) (fun cdv A outer s H vs Q E hr h => ?_)
  · obtain ⟨t, n, b, h, rfl, _⟩ := h; rfl
  · obtain ⟨t, n, b, h, rfl, hT, h1, h2, h3, q⟩ := h
    refine ⟨_, (pss_one (ps_ret (pe_and (pe_cal (ok_is_pair T) (hr.mono (by decide)) (by rfl) (pa_cons (pv 1) pa_nil)) (pe_and (pe_cal (ok_is_within T) (hr.mono (by decide)) (by rfl) (pa_cons (pe_ix ix_tup (pv 1) pe_int (fun _ _ => rfl)) (pa_cons pe_int (pa_cons (pv 0) pa_nil)))) (pe_one (pe_cal (ok_is_within T) (hr.mono (by decide)) (by rfl) (pa_cons (pe_ix ix_tup (pv 1) pe_int (fun _ _ => rfl)) (pa_cons pe_int (pa_cons (pv 0) pa_nil))))))))), ?_⟩
    refine ⟨_, rfl, t, _, _, rfl, hT, fun H1 e1 => ⟨true, rfl, iteT ?_⟩⟩
    refine ⟨_, rfl, t, _, _, _, rfl, rfl, ex_t e1 hT, atI_nat (j := 0) rfl, _, rfl, b, 1, n, rfl, fun H2 e2 => ?_⟩
    refine ⟨_, rfl, ?_⟩
    rw [decide_eq_true (show (1 : Int) ≤ (b : Int) ∧ (b : Int) ≤ (n : Int) by omega)]
    refine iteT ?_
    refine ⟨_, rfl, t, _, _, _, rfl, rfl, ex_t (e1.trans e2) hT, atI_nat (j := 1) rfl, _, rfl, h, 0, n, rfl, fun H3 e3 => ?_⟩
    rw [decide_eq_true (show (0 : Int) ≤ (h : Int) ∧ (h : Int) ≤ (n : Int) by omega)]
    exact q H3 ((e1.trans e2).trans e3)
/-- what has the form of a telling -/
structure FormOk (n u p : Nat) (t : Tel) : Prop where
  len : t.1.length ≤ if p = 0 then 0 else u
  row : ∀ x ∈ t.1, x ≤ n
  tie : ∀ q ∈ t.2, 1 ≤ q.1 ∧ q.1 ≤ n ∧ q.2 ≤ n
  asc : t.2.Pairwise fun a b => a.1 < b.1
  few : t.2.length ≤ 1000
theorem tel_form {hs : List Nat} (T : TreeOk hs) {u d p : Nat} (hp : p ≤ hs.length) : FormOk hs.length u p (tel hs u d p) where
  len := by
    show ((chainF hs p).take u).length ≤ _
    rw [List.length_take]
    split
    · rename_i e
      rw [e]
      unfold chainF
      rw [chain_zero]
      exact Nat.min_le_right _ _
    · exact Nat.min_le_left _ _
  row := fun x hx => by
    have hx := List.mem_of_mem_take hx
    obtain ⟨i, hi⟩ := List.mem_iff_getElem?.mp hx
    rw [(chain_at _ _ _ _ _ hi).1, up_succ]
    exact T.le _
  tie := fun q hq => by
    obtain ⟨h1, h2, h3, _⟩ := mem_tiesC.mp hq
    exact ⟨h1, h2, by rw [h3]; exact T.le _⟩
  asc := tiesC_sorted _ _ _
  few := by
    have h1 := tiesC_len hs d p
    have h2 := T.n40
    show (tiesC hs d p).length ≤ 1000
    omega
def sp_has_form (K : PySem.W.Frag) : Sp := fun vs H Q _ => ∃ (va : Addr) (n u d p : Nat) (v : V) (t : Tel), vs = [.ref va, VI n, VI p, v] ∧ SqT K H va [VI u, VI d] ∧ u ≤ 4 ∧ TelAt H v t ∧ FormOk n u p t ∧ ∀ H', Ex H H' → Q (.bl true) H'
theorem ok_has_form (T : Txt K mg) : Callee P w K mg base 4 "has_form" ["view", "blocks", "place", "thing"] (sp_has_form K) := by
  refine callee_mk T.f_has_form T.g_has_form (fun fd F => ?_) (fun _ _ _ _ _ _ us hl => match us, hl with | [_, _, _, _], _ => rfl)
  refine F.ok sc_has_form (fun vs H Q E h => ?_) (fun cdv A outer s H vs Q E hr h => ?_)
  · obtain ⟨va, n, u, d, p, v, t, rfl, _⟩ := h; rfl
  · obtain ⟨va, n, u, d, p, v, t, rfl, hV, hu4, hT, hF, q⟩ := h
    obtain ⟨a, r, g, ys, rfl, hA, hR, hG, hP⟩ := id hT
    have hl := hF.len
    refine ⟨_, (pss_cons (ps_if (PW.pt (pw_or (pt_not (pt_val (pe_cal (ok_is_pair T) (hr.mono (by decide)) (by rfl) (pa_cons (pv 3) pa_nil)))) (pw_or (pt_not (pt_val (pe_callB call_isi (by rfl) T.n_isinstance (by decide +kernel) (pa_cons (pe_ix ix_tup (pv 3) pe_int (fun _ _ => rfl)) (pa_cons (pe_bltn (v := .ty "tuple") (by rfl) T.n_tuple (by decide +kernel) rfl) pa_nil))))) (pw_or1 (pt_not (pt_val (pe_callB call_isi (by rfl) T.n_isinstance (by decide +kernel) (pa_cons (pe_ix ix_tup (pv 3) pe_int (fun _ _ => rfl)) (pa_cons (pe_bltn (v := .ty "tuple") (by rfl) T.n_tuple (by decide +kernel) rfl) pa_nil))))))))) (pss_one (ps_ret pe_bl)) pss_nil)
      (pss_cons (ps_asg (pv 3) (pg_tup (by rfl) (pgs_cons (pg_name (i := 4) sc_has_form.nd rfl (Or.inl rfl)) (pgs_cons (pg_name (i := 5) sc_has_form.nd rfl (Or.inl rfl)) pgs_nil))))
      (pss_cons (ps_set (i := 6) sc_has_form.nd rfl (Or.inl rfl) (pe_ifExp (pt_cmpR op_ne (pv 2) (pe_gi (by rfl) T.HEAD) (nomark _)) (pe_ix ix_tup (pv 0) pe_int (fun _ _ => rfl)) pe_int))
      (pss_cons (ps_if (PW.pt (pw_or (pt_cmpR op_gt (pe_callB call_len_seq (by rfl) T.n_len PySem.boot_len (pa_cons (pv 4) pa_nil)) (pv 6) (nomark _)) (pw_or1 (pt_not (pt_val (pe_callB (cr_all rfl) (by rfl) T.n_all (by decide +kernel) (pa_cons (pe_lc (own := [("item", 7)]) (g := (gName 7)) (tt := tYes) (by rfl) sc_has_form.nd (pi_tup (pv 4)) (blkOk_by (own := [("item", 7)]) (N := N_has_form) (sc := defScope s_has_form) (by decide +kernel)) (fun _ _ _ _ _ => (pg_name (i := 7) sc_has_form.nd rfl (Or.inl rfl))) (fun _ _ _ _ _ => pts_nil) (fun _ _ _ _ _ => (pe_cal (ok_is_within T) (hr.mono (by decide)) (by rfl) (pa_cons (pv 7) (pa_cons pe_int (pa_cons (pv 1) pa_nil)))))) pa_nil))))))) (pss_one (ps_ret pe_bl)) pss_nil)
      (pss_one (ps_ret (pe_and (pe_callB (cr_all rfl) (by rfl) T.n_all (by decide +kernel) (pa_cons (pe_lc (own := [("item", 7)]) (g := (gName 7)) (tt := tYes) (by rfl) sc_has_form.nd (pi_tup (pv 5)) (blkOk_by (own := [("item", 7)]) (N := N_has_form) (sc := defScope s_has_form) (by decide +kernel)) (fun _ _ _ _ _ => (pg_name (i := 7) sc_has_form.nd rfl (Or.inl rfl))) (fun _ _ _ _ _ => pts_nil) (fun _ _ _ _ _ => (pe_cal (ok_is_tie T) (hr.mono (by decide)) (by rfl) (pa_cons (pv 1) (pa_cons (pv 7) pa_nil))))) pa_nil)) (pe_one (pe_cal (ok_is_ascending_t T) (hr.mono (by decide)) (by rfl) (pa_cons (pv 5) pa_nil)))))))))), ?_⟩
    have sA : SqT K H a [.ref r, .ref g] := .inl (.inl hA)
    refine ⟨.ref a, rfl, a, _, _, rfl, sA, fun H1 e1 => ⟨true, rfl, iteF ?_⟩⟩
    refine ⟨.ref a, rfl, a, _, _, _, rfl, rfl, ex_t e1 sA, atI_nat (j := 0) rfl, _, _, _, _, true, rfl, .ty _, ty_tup (.inl (.inl (e1 _ _ hR))), kit_ty (by decide +kernel), true, rfl, iteF ?_⟩
    refine ⟨.ref a, rfl, a, _, _, _, rfl, rfl, ex_t e1 sA, atI_nat (j := 1) rfl, _, _, _, _, true, rfl, .ty _, ty_tup (.inl (.inl (e1 _ _ hG))), kit_ty (by decide +kernel), true, rfl, iteF ?_⟩
    refine ⟨.ref a, rfl, a, _, rfl, ex_t e1 sA, rfl, _, _, rfl, _, _, rfl, rfl, ?_⟩
    -- most
    have key : ∀ m : Nat, t.1.length ≤ m → ∀ H1, Ex H H1 → tSeq (tIfS (tOr (tTest (tOp (rI0 fun i j => .bl (decide (j < i))) (tCB (rLenQ K) (tCons (tVar 4) tNil)) (tVar 6))) (tNot (tB (tCB (rAll K) (tCons (tLc (iTup K (tVar 4)) (gName 7) tYes (tCall sp_is_within [] E0 (tCons (tVar 7) (tCons (tC (.int 0)) (tCons (tVar 1) tNil)))) [7]) tNil))))) (tRet (tC (.bl false))) tNext)
        (tRet (tAndV (tCB (rAll K) (tCons (tLc (iTup K (tVar 5)) (gName 7) tYes (tCall (sp_is_tie K) [] E0 (tCons (tVar 1) (tCons (tVar 7) tNil))) [7]) tNil)) (tCall (sp_is_ascending_t K) [] E0 (tCons (tVar 5) tNil))))
        { nx := fun _ H' => Q .non H', rt := Q } [some (.ref va), some (VI n), some (VI p), some (.ref a), some (.ref r), some (.ref g), some (VI m), none] H1 := by
      intro m hm H1 e1
      have sR : SqT K H1 r (vns t.1) := .inl (.inl (e1 _ _ hR))
      refine ⟨.ref r, rfl, r, _, rfl, .inr sR, _, rfl, _, _, rfl, rfl, _, rfl, ?_⟩
      rw [decide_eq_false (show ¬ (m : Int) < ((vns t.1).length : Int) by rw [List.length_map]; omega)]
      refine iteF ?_
      refine ⟨.ref r, rfl, r, rfl, ⟨_, sR⟩, ?_⟩
      refine lcT sR (f := fun _ => true) (E := fun _ y _ => y = .bl true) (fun _ => mono_eq) (by rw [List.length_map]; split at hl <;> omega) (fun D i x H' hD e hys hx Qy Qn qy qn => ?_) (fun D zs H2 hD e hy hp => ?_)
      · obtain ⟨b, hb, rfl⟩ := vns_at hx
        have hb := hF.row b (List.mem_of_getElem? hb)
        refine yes_go rfl ?_
        refine ⟨_, rfl, _, rfl, b, 0, n, rfl, fun H4 e4 => qy _ _ e4 rfl ?_⟩
        rw [decide_eq_true (by omega)]
      · dsimp only [tNil]
        refine all_of hp (.inl (.inl hy)) ?_
        refine ⟨true, rfl, iteF ?_⟩
        -- the ties
        have e2 := e1.trans e
        have sG : SqT K H2 g ys := .inl (.inl (e2 _ _ hG))
        refine ⟨.ref g, rfl, g, rfl, ⟨_, sG⟩, ?_⟩
        have hlen := paired_len hP
        have hfew := hF.few
        refine lcT sG (f := fun _ => true) (E := fun _ y _ => y = .bl true) (fun _ => mono_eq) (by omega) (fun D i x H' hD e hys hx Qy Qn qy qn => ?_) (fun D zs H3 hD e3 hy hp => ?_)
        · obtain ⟨qq, hq, tt, rfl, ht⟩ := paired_at ((hP.mono e2).mono e) hx
          obtain ⟨h1, h2, h3⟩ := hF.tie qq (List.mem_of_getElem? hq)
          refine yes_go rfl ?_
          exact ⟨_, rfl, _, rfl, tt, n, qq.1, qq.2, rfl, .inl (.inl ht), h1, h2, h3, fun H4 e4 => qy _ _ e4 rfl rfl⟩
        · dsimp only [tNil]
          refine all_of hp (.inl (.inl hy)) ?_
          refine ⟨true, rfl, iteT ?_⟩
          exact ⟨.ref g, rfl, g, ys, t.2, rfl, ex_t e3 sG, ((hP.mono e2).mono e3).to, hF.asc, hF.few, fun H4 e4 => q H4 ((e2.trans e3).trans e4)⟩
    refine ⟨_, rfl, rfl, _, rfl, ?_⟩
    have ed : (!decide (V.int (p : Int) = V.int 0)) = decide (p ≠ 0) := by
      rw [show (V.int 0) = V.int ((0 : Nat) : Int) from rfl, dec_vI]; simp
    rw [ed]
    refine ite2 (fun h => ?_) (fun h => ?_)
    · have h := of_decide_eq_true h
      rw [if_neg h] at hl
      exact ⟨.ref va, rfl, va, _, _, _, rfl, rfl, ex_t e1 hV, atI_nat (j := 0) rfl, key u hl _ e1⟩
    · have h : p = 0 := Decidable.of_not_not fun z => h (decide_eq_true z)
      rw [if_pos h] at hl
      exact key 0 hl _ e1
end
end Fv
end
section
/-! pictures -/
namespace Fv
open PySem PySem.Spec PyProof.Rows L2 Evl
/-! ### a told dict -/
def ToldAt (H : Hp) (kvs : List (Key × V)) (hs : List Nat) (u d : Nat) (lost : List Nat) : Prop := Paired (fun (p : Nat) (kv : Key × V) => kv.1 = Sum.inl (p : Int) ∧ TelAt H kv.2 (tel hs u d p)) (places hs.length lost) kvs
theorem ToldAt.mono {H H' : Hp} {kvs : List (Key × V)} {hs : List Nat} {u d : Nat} {lost : List Nat} (e : Ex H H') (h : ToldAt H kvs hs u d lost) : ToldAt H' kvs hs u d lost := paired_imp h fun _ _ _ ⟨h1, h2⟩ => ⟨h1, h2.mono e⟩
theorem places_sorted (n : Nat) (lost : List Nat) : (places n lost).Pairwise (· < ·) := List.Pairwise.filter _ List.pairwise_lt_range
theorem places_len (n : Nat) (lost : List Nat) : (places n lost).length ≤ n + 1 := filter_range_len _ _
theorem told_keys {F : Nat → V → Prop} : ∀ {l : List Nat} {kvs : List (Key × V)}, Paired (fun (p : Nat) (kv : Key × V) => kv.1 = Sum.inl (p : Int) ∧ F p kv.2) l kvs → kvs.map (·.1) = (l.map fun p : Nat => (p : Int)).map Sum.inl
  | _, _, .nil => rfl
  | _, _, .cons ⟨h1, _⟩ t => by rw [List.map_cons, List.map_cons, List.map_cons, h1, told_keys t]
theorem told_val {F : Nat → V → Prop} : ∀ {l : List Nat} {kvs : List (Key × V)} {p : Nat}, Paired (fun (p : Nat) (kv : Key × V) => kv.1 = Sum.inl (p : Int) ∧ F p kv.2) l kvs → p ∈ l → ∃ v, valV kvs (Sum.inl (p : Int)) = some v ∧ F p v
  | _, _, p, .nil, h => by cases h
  | a :: l, kv :: kvs, p, .cons ⟨h1, h2⟩ t, h => by
    by_cases e : a = p
    · subst e
      exact ⟨kv.2, valV_pos h1, h2⟩
    · have hp : p ∈ l := by
        rcases List.mem_cons.mp h with e' | h
        · exact absurd e'.symm e
        · exact h
      obtain ⟨v, h3, h4⟩ := told_val t hp
      refine ⟨v, ?_, h4⟩
      rw [valV_neg (fun z => ?_), h3]
      rw [h1] at z
      injection z with z
      omega
theorem told_none {F : Nat → V → Prop} : ∀ {l : List Nat} {kvs : List (Key × V)} {p : Nat}, Paired (fun (p : Nat) (kv : Key × V) => kv.1 = Sum.inl (p : Int) ∧ F p kv.2) l kvs → ¬ p ∈ l → valV kvs (Sum.inl (p : Int)) = none
  | _, _, p, .nil, h => rfl
  | a :: l, kv :: kvs, p, .cons ⟨h1, h2⟩ t, h => by
    have e : ¬ a = p := fun e => h (by rw [e]; exact List.mem_cons_self ..)
    rw [valV_neg (fun z => ?_)]
    · exact told_none t fun hp => h (List.mem_cons_of_mem _ hp)
    · rw [h1] at z
      injection z with z
      omega
theorem ToldAt.val {H : Hp} {kvs : List (Key × V)} {hs : List Nat} {u d : Nat} {lost : List Nat} {p : Nat} (h : ToldAt H kvs hs u d lost) (hp : p ∈ places hs.length lost) : ∃ v, valV kvs (Sum.inl (p : Int)) = some v ∧ TelAt H v (tel hs u d p) := told_val (F := fun p v => TelAt H v (tel hs u d p)) h hp
theorem ToldAt.keys {H : Hp} {kvs : List (Key × V)} {hs : List Nat} {u d : Nat} {lost : List Nat} (h : ToldAt H kvs hs u d lost) : kvs.map (·.1) = ((places hs.length lost).map fun p : Nat => (p : Int)).map Sum.inl := told_keys (F := fun p v => TelAt H v (tel hs u d p)) h
theorem ToldAt.none {H : Hp} {kvs : List (Key × V)} {hs : List Nat} {u d : Nat} {lost : List Nat} {p : Nat} (h : ToldAt H kvs hs u d lost) (hp : ¬ p ∈ places hs.length lost) : valV kvs (Sum.inl (p : Int)) = Option.none := told_none (F := fun p v => TelAt H v (tel hs u d p)) h hp
theorem merge_app : ∀ {zs acc : List (Key × V)}, ((acc ++ zs).map (·.1)).Nodup → mergeK acc zs = acc ++ zs
  | [], acc, _ => by rw [List.append_nil]; rfl
  | z :: zs, acc, h => by
    have e : acc ++ z :: zs = (acc ++ [z]) ++ zs := by rw [List.append_assoc]; rfl
    have hn : valV acc z.1 = none := by
      cases q : valV acc z.1 with
      | none => rfl
      | some v =>
        have h1 := valV_in q
        rw [List.map_append, List.nodup_append] at h
        exact absurd rfl (h.2.2 _ h1 z.1 (List.mem_map.mpr ⟨z, List.mem_cons_self .., rfl⟩))
    rw [e]
    rw [e] at h
    rw [← merge_app h]
    show mergeK (putK acc z.1 z.2) zs = _
    rw [putK_new _ hn]
theorem merge_nil {zs : List (Key × V)} (h : (zs.map (·.1)).Nodup) : mergeK [] zs = zs := merge_app (acc := []) h
theorem inl_nodup : ∀ {l : List Nat}, l.Nodup → (l.map fun p : Nat => (Sum.inl (p : Int) : Key)).Nodup := fun h => map_nodup (fun a b e => by injection e with e; omega) h
theorem zip_told {F : Nat → V → Prop} : ∀ {l : List Nat} {ys : List V}, Paired F l ys → Paired (fun (p : Nat) (kv : Key × V) => kv.1 = Sum.inl (p : Int) ∧ F p kv.2) l ((l.map fun p : Nat => (Sum.inl (p : Int) : Key)).zip ys)
  | _, _, .nil => .nil
  | _, _, .cons r t => .cons ⟨rfl, r⟩ (zip_told t)
theorem zip_fst : ∀ {l : List Nat} {ys : List V}, l.length = ys.length → (((l.map fun p : Nat => (Sum.inl (p : Int) : Key)).zip ys).map (·.1)) = l.map fun p : Nat => (Sum.inl (p : Int) : Key)
  | [], _, _ => by simp
  | a :: l, [], h => by cases h
  | a :: l, y :: ys, h => by
    rw [List.map_cons, List.zip_cons_cons, List.map_cons, zip_fst (by simpa using h)]
theorem sort_nats {ns : List Nat} {ys : List Int} (h : ns.Pairwise (· < ·)) (hp : ys.Perm (ns.map fun p : Nat => (p : Int))) (hs : ys.Pairwise (· ≤ ·)) : ys = ns.map fun p : Nat => (p : Int) := by
  refine List.Perm.eq_of_pairwise (le := (· ≤ ·)) (fun a b _ _ h1 h2 => Int.le_antisymm h1 h2) hs ?_ hp
  rw [List.pairwise_map]
  exact List.Pairwise.imp (fun h => by omega) h
theorem nodup_lt {l : List Nat} (h : l.Pairwise (· < ·)) : l.Nodup := List.Pairwise.imp (fun h e => by omega) h
theorem vns_cast (l : List Nat) : (l.map fun p : Nat => (p : Int)).map V.int = vns l := by rw [List.map_map]; rfl
/-! ### fields -/
theorem nbv : ¬ (("blocks" : Str) = "view") := by decide +kernel
theorem ntv : ¬ (("told" : Str) = "view") := by decide +kernel
theorem ntb : ¬ (("told" : Str) = "blocks") := by decide +kernel
theorem nvt : ¬ (("view" : Str) = "told") := by decide +kernel
theorem nvb : ¬ (("view" : Str) = "blocks") := by decide +kernel
theorem nbt : ¬ (("blocks" : Str) = "told") := by decide +kernel
def fsPic (va : Addr) (n : Nat) (t : Addr) : List (Str × V) := putF "told" (.ref t) (putF "blocks" (VI n) (putF "view" (.ref va) []))
theorem pic_view (va : Addr) (n : Nat) (t : Addr) : (fsPic va n t).lookup ("view" : Str) = some (.ref va) := by
  unfold fsPic; rw [lookup_putF, if_neg nvt, lookup_putF, if_neg nvb, lookup_putF, if_pos rfl]
theorem pic_blocks (va : Addr) (n : Nat) (t : Addr) : (fsPic va n t).lookup ("blocks" : Str) = some (VI n) := by
  unfold fsPic; rw [lookup_putF, if_neg nbt, lookup_putF, if_pos rfl]
theorem pic_told (va : Addr) (n : Nat) (t : Addr) : (fsPic va n t).lookup ("told" : Str) = some (.ref t) := by
  unfold fsPic; rw [lookup_putF, if_pos rfl]
theorem putF_le (f : Str) (v : V) : ∀ fs : List (Str × V), (putF f v fs).length ≤ fs.length + 1
  | [] => Nat.le_refl _
  | (g, x) :: r => by
    unfold putF
    split
    · exact Nat.le_succ _
    · exact Nat.succ_le_succ (putF_le f v r)
/-- a Picture object -/
def PicAt (K : PySem.W.Frag) (H : Hp) (v : V) (hs : List Nat) (u d : Nat) (lost : List Nat) : Prop := ∃ x dx va t kvs, v = .ref x ∧ H x = some (.ins (cPic K) dx (fsPic va hs.length t)) ∧ SqT K H va [VI u, VI d] ∧ H t = some (.dK kvs) ∧ ToldAt H kvs hs u d lost
theorem PicAt.mono {K : PySem.W.Frag} {H H' : Hp} {v : V} {hs : List Nat} {u d : Nat} {lost : List Nat} (e : Ex H H') (h : PicAt K H v hs u d lost) : PicAt K H' v hs u d lost := by
  obtain ⟨x, dx, va, t, kvs, h1, h2, h3, h4, h5⟩ := h
  exact ⟨x, dx, va, t, kvs, h1, e _ _ h2, ex_t e h3, e _ _ h4, h5.mono e⟩
theorem inV_vns (x : Nat) (l : List Nat) : inV (VI x) (vns l) = l.contains x := by
  unfold inV
  rw [List.any_map]
  rw [Bool.eq_iff_iff, List.any_eq_true, List.contains_iff_mem]
  constructor
  · rintro ⟨y, hy, h⟩
    have h : ((y : Int) == (x : Int)) = true := h
    have h := eq_of_beq h
    have : y = x := by omega
    rw [← this]; exact hy
  · intro h
    exact ⟨x, h, show ((x : Int) == (x : Int)) = true from beq_self_eq_true _⟩
theorem vns_flat (l : List Nat) : (vns l).all flatV = true := by
  rw [List.all_eq_true]
  intro x hx
  obtain ⟨n, _, rfl⟩ := List.mem_map.mp hx
  rfl
section
variable {P : Program} {w : World} {K : PySem.W.Frag} {mg : Str → Option Value} {base : Heap}
def sp_Picture_init (K : PySem.W.Frag) : Sp := fun vs H Q _ => ∃ (p dx va t : Addr) (kvs : List (Key × V)) (hs : List Nat) (u d : Nat) (lost : List Nat), vs = [.ref p, .ref va, VI hs.length, .ref t] ∧ H p = some (.ins (cPic K) dx []) ∧ SqT K H va [VI u, VI d] ∧ u ≤ 4 ∧ d ≤ 4 ∧ TreeOk hs ∧ H t = some (.dK kvs) ∧ ToldAt H kvs hs u d lost ∧ ¬ 0 ∈ lost ∧
  ∀ t' H', ExB p H H' → H' t' = some (.dK kvs) → H' p = some (.ins (cPic K) dx (fsPic va hs.length t')) → Q .non H'
theorem ok_Picture_init (T : Txt K mg) : Maker P w K mg base 5 "Picture" (cPic K) ["self", "view", "blocks", "told"] (sp_Picture_init K) := by
  refine maker_mk T.f_Picture_init T.gPicture T.mkPicture (fun fd F => ?_) (fun _ _ _ _ _ _ us hl => match us, hl with | [_, _, _, _], _ => rfl)
  refine F.ok sc_Picture_init (fun vs H Q E h => ?_) (fun cdv A outer s H vs Q E hr h => ?_)
  · obtain ⟨p, dx, va, t, kvs, hs, u, d, lost, rfl, _⟩ := h; rfl
  · obtain ⟨p, dx, va, t, kvs, hs, u, d, lost, rfl, hp, hV, hu4, hd4, Tr, hT, hK, h0, q⟩ := h
    have hu := hu_of hr
    have h40 := Tr.n40
    have h1 := Tr.n1
    refine ⟨_, (pss_cons (ps_if (pt_not (pt_val (pe_cal (ok_is_view T) (hr.mono (by decide)) (by rfl) (pa_cons (pv 1) pa_nil)))) (pss_one ps_never) pss_nil)
      (pss_cons (ps_if (pt_not (pt_val (pe_cal (ok_is_within T) (hr.mono (by decide)) (by rfl) (pa_cons (pv 2) (pa_cons pe_int (pa_cons (pe_gi (by rfl) T.MOST_BLOCKS) pa_nil)))))) (pss_one ps_never) pss_nil)
      (pss_cons (ps_if (PW.pt (pw_or (pt_not (pt_val (pe_callB call_isi (by rfl) T.n_isinstance (by decide +kernel) (pa_cons (pv 3) (pa_cons (pe_bltn (v := .ty "dict") (by rfl) T.n_dict (by decide +kernel) rfl) pa_nil))))) (pw_or (pt_not (pt_val (pe_callB (cr_all rfl) (by rfl) T.n_all (by decide +kernel) (pa_cons (pe_lock (pe_lc (own := [("place", 4)]) (g := (gName 4)) (tt := tYes) (by rfl) sc_Picture_init.nd (pi_keys (pv 3)) (blkOk_by (own := [("place", 4)]) (N := N_Picture_init) (sc := defScope s_Picture_init) (by decide +kernel)) (fun _ _ _ _ _ => (pg_name (i := 4) sc_Picture_init.nd rfl (Or.inl rfl))) (fun _ _ _ _ _ => pts_nil) (fun _ _ _ _ _ => (pe_cal (ok_is_within T) (hr.mono (by decide)) (by rfl) (pa_cons (pv 4) (pa_cons pe_int (pa_cons (pv 2) pa_nil))))))) pa_nil)))) (pw_or1 (pt_cmp (pc_dnotin hu (pe_gi (by rfl) T.HEAD) (pv 3))))))) (pss_one ps_never) pss_nil)
      (pss_cons (ps_for PassesOwn.never rfl (pi_list (pe_callB (call_sortedDI rfl) (by rfl) T.n_sorted (by decide +kernel) (pa_cons (pv 3) pa_nil))) (pg_name (i := 4) sc_Picture_init.nd rfl (Or.inl rfl))
        (pss_one (ps_if (pt_not (pt_val (pe_cal (ok_has_form T) (hr.mono (by decide)) (by rfl) (pa_cons (pv 1) (pa_cons (pv 2) (pa_cons (pv 4) (pa_cons (pe_dget hu (pv 3) (pv 4) (fun _ _ => rfl)) pa_nil))))))) (pss_one ps_never) pss_nil)))
      (pss_cons (ps_fld (pv 0) (pv 1) rfl)
      (pss_cons (ps_fld (pv 0) (pv 2) rfl)
      (pss_one (ps_fld (pv 0) (pe_callTy call_dictD (by rfl) T.n_dict (by decide +kernel) (pa_cons (pv 3) pa_nil)) rfl)))))))), ?_⟩
    refine ⟨_, rfl, va, u, d, rfl, hV, hu4, hd4, fun H1 e1 => ⟨true, rfl, iteF ?_⟩⟩
    refine ⟨_, rfl, hs.length, 1, 40, rfl, fun H2 e2 => ⟨true, ?_, iteF ?_⟩⟩
    · rw [decide_eq_true (by omega)]
    have eA := e1.trans e2
    have hT2 := eA _ _ hT
    have hkl : kvs.length ≤ 41 := by rw [← paired_len hK]; have := places_len hs.length lost; omega
    refine ⟨_, rfl, _, _, _, _, true, rfl, .ty _, .base (.dK hT2), kit_ty (by decide +kernel), true, rfl, iteF ?_⟩
    refine ⟨t, _, hT2, trivial, fun od => ?_⟩
    refine ⟨.ref t, rfl, t, od, rfl, .inl ⟨kvs, upd_same, ?_⟩⟩
    refine lcJ (n := kvs.length) (f := fun _ => true) (E := fun _ y _ => y = .bl true) (fun _ => mono_eq) (by omega) (fun i H' e hi => ⟨e _ _ upd_same, hi⟩) (fun H' e => ⟨e _ _ upd_same, Nat.le_refl _⟩) (fun D i x H' H'' hD e hys hi hy Qy Qn qy qn => ?_) (fun D ys H3 hD e3 hy hp3 => ?_)
    · obtain ⟨rfl, k, v, hk, rfl⟩ := hy
      obtain ⟨pl, hpl, hk1, _⟩ := paired_at hK hk
      have hk1 : k = Sum.inl (pl : Int) := hk1
      subst hk1
      have hple := (mem_places.mp (List.mem_of_getElem? hpl)).1
      refine yes_go rfl ?_
      refine ⟨_, rfl, _, rfl, pl, 0, hs.length, rfl, fun H4 e4 => qy _ _ e4 rfl ?_⟩
      rw [decide_eq_true (by omega)]
    · refine ⟨e3 _ _ upd_same, ?_⟩
      have nDt : D ≠ t := fun z => by rw [z, upd_same] at hD; cases hD
      have e4 : Ex H2 (upd H3 t (.dK kvs)) := lock_ex hT2 e3
      have hD4 : (upd H3 t (.dK kvs)) D = some (.lst ys) := by rw [upd_ne nDt]; exact hy
      generalize upd H3 t (.dK kvs) = H4 at e4 hD4
      dsimp only [tNil]
      refine all_of hp3 (.inl (.inl hD4)) ?_
      refine ⟨true, rfl, iteF ?_⟩
      have hT4 := e4 _ _ hT2
      have hK4 := (hK.mono eA).mono e4
      obtain ⟨v0, hv0, _⟩ := (hK4).val (mem_places.mpr ⟨Nat.zero_le _, h0⟩)
      refine ⟨_, rfl, t, _, rfl, DGet.k (k := Sum.inl 0) hT4, _, rfl, ?_⟩
      have hv0 : valV kvs (Sum.inl 0 : Key) = some v0 := hv0
      rw [hv0]
      refine iteF ?_
      have eB := eA.trans e4
      refine ⟨.ref t, rfl, t, kvs, (places hs.length lost).map fun p : Nat => (p : Int), rfl, .inl hT4, (hK4).keys, ?_, fun ys' sl hperm hsrt hsl => ?_⟩
      · rw [List.length_map]; have := places_len hs.length lost; omega
      obtain rfl := sort_nats (places_sorted _ _) hperm hsrt
      rw [vns_cast]
      have hsl5 : (upd H4 sl (.lst (vns (places hs.length lost)))) sl = some (.lst (vns (places hs.length lost))) := upd_same
      have e5 : Ex H4 (upd H4 sl (.lst (vns (places hs.length lost)))) := Ex.new hsl
      generalize upd H4 sl (.lst (vns (places hs.length lost))) = H5 at hsl5 e5
      refine ⟨sl, rfl, ⟨_, .inl (.inl hsl5)⟩, ?_⟩
      refine for_list (K := K) (xs := vns (places hs.length lost)) (fun i σ H' => Ex H5 H' ∧ ∃ y, σ = [some (.ref p), some (.ref va), some (VI hs.length), some (.ref t), y]) ⟨Ex.refl _, none, rfl⟩ (fun i σ H' _ h => .inl (.inl (h.1 _ _ hsl5))) ?_ ?_
      · rintro i y σ H6 hy6 ⟨e6, y4, rfl⟩
        obtain ⟨pl, hpl, rfl⟩ := vns_at hy6
        have hm := List.mem_of_getElem? hpl
        have hK6 := (hK4.mono e5).mono e6
        obtain ⟨v, hv, hTel⟩ := (hK6).val hm
        refine ⟨_, rfl, _, rfl, _, rfl, .ref t, rfl, VI pl, rfl, t, v, rfl, ?_, ?_⟩
        · have := DGet.k (k := Sum.inl (pl : Int)) (e6 _ _ (e5 _ _ hT4))
          rw [hv] at this
          exact this
        · refine ⟨va, hs.length, u, d, pl, v, _, rfl, ex_t ((eB.trans e5).trans e6) hV, hu4, hTel, tel_form Tr (mem_places.mp hm).1, fun H7 e7 => ⟨true, rfl, iteF ?_⟩⟩
          exact ⟨e6.trans e7, _, rfl⟩
      · rintro σ H6 ⟨e6, y4, rfl⟩
        have e06 := (eB.trans e5).trans e6
        have hp6 := e06 _ _ hp
        have hT6 := e06 _ _ hT
        refine ⟨_, rfl, _, rfl, p, cPic K, dx, [], rfl, hp6, T.clPicture, T.naPicture_view, (by decide), ?_⟩
        refine ⟨_, rfl, _, rfl, p, cPic K, dx, _, rfl, upd_same, T.clPicture, T.naPicture_blocks, (by have := putF_le "view" (.ref va) []; exact Nat.lt_of_le_of_lt this (by decide)), ?_⟩
        rw [upd_upd]
        have npt : t ≠ p := ne_of hT6 hp6 (by intro z; cases z)
        refine ⟨.ref t, rfl, t, kvs, rfl, .inl (by rw [upd_ne npt]; exact hT6), fun t' ht' => ?_⟩
        have nt'p : t' ≠ p := fun z => by rw [z, upd_same] at ht'; cases ht'
        refine ⟨_, rfl, p, cPic K, dx, _, rfl, by rw [upd_ne nt'p.symm, upd_same], T.clPicture, T.naPicture_told, ?_, ?_⟩
        · have h1 := putF_le "view" (.ref va) []
          have h2 := putF_le "blocks" (VI hs.length) (putF "view" (.ref va) [])
          exact Nat.lt_of_le_of_lt (Nat.le_trans h2 (Nat.succ_le_succ h1)) (by decide)
        · refine q t' _ (fun b o hb hbo => ?_) ?_ upd_same
          · have hb6 := e06 _ _ hbo
            have nb : b ≠ t' := fun z => by
              rw [z] at hb6
              rw [upd_ne nt'p, hb6] at ht'
              cases ht'
            rw [upd_ne hb, upd_ne nb, upd_ne hb]
            exact hb6
          · rw [upd_ne nt'p, upd_same]
def sp_seen (K : PySem.W.Frag) : Sp := fun vs H Q _ => ∃ (v : V) (va la : Addr) (hs : List Nat) (u d : Nat) (lost : List Nat), vs = [v, .ref va, .ref la] ∧ TreeAt K H v hs ∧ TreeOk hs ∧ SqT K H va [VI u, VI d] ∧ u ≤ 4 ∧ d ≤ 4 ∧ SqT K H la (vns lost) ∧ lost.Pairwise (· < ·) ∧ lost.length ≤ 1000 ∧ (∀ n ∈ lost, 1 ≤ n ∧ n ≤ hs.length) ∧
  ∀ x H', Ex H H' → PicAt K H' x hs u d lost → Q x H'
theorem ok_seen (T : Txt K mg) : Callee P w K mg base 7 "seen" ["tree", "view", "lost"] (sp_seen K) := by
  refine callee_mk T.f_seen T.g_seen (fun fd F => ?_) (fun _ _ _ _ _ _ us hl => match us, hl with | [_, _, _], _ => rfl)
  refine F.ok sc_seen (fun vs H Q E h => ?_) (fun cdv A outer s H vs Q E hr h => ?_)
  · obtain ⟨v, va, la, hs, u, d, lost, rfl, _⟩ := h; rfl
  · obtain ⟨v, va, la, hs, u, d, lost, rfl, ⟨tr, dx, a, rfl, hTr, hA⟩, Tr, hV, hu4, hd4, hL, hw, hln, hlb, q⟩ := h
    have hu := hu_of hr
    have h40 := Tr.n40
    refine ⟨_, (pss_cons (ps_expr (pe_cal (ok_check_view T) (hr.mono (by decide)) (by rfl) (pa_cons (pv 1) pa_nil)))
      (pss_cons (ps_expr (pe_cal (ok_check_lot T) (hr.mono (by decide)) (by rfl) (pa_cons (pe_callB call_len_seq (by rfl) T.n_len PySem.boot_len (pa_cons (pe_fld (pv 0) rfl) pa_nil)) (pa_cons (pv 2) pa_nil))))
      (pss_cons (ps_setLc (i := 3) (own := [("place", 4)]) (g := (gName 4))  (by rfl) sc_seen.nd rfl rfl (sw_true rfl rfl rfl (by decide +kernel)) (pi_range1 (by rfl) T.n_range (pa_cons (pe_op op_add (pe_callB call_len_seq (by rfl) T.n_len PySem.boot_len (pa_cons (pe_fld (pv 0) rfl) pa_nil)) pe_int) pa_nil)) (blkOk_by (own := [("place", 4)]) (N := N_seen) (sc := defScope s_seen) (by decide +kernel)) (fun _ _ _ _ _ => (pg_name (i := 4) sc_seen.nd rfl (Or.inl rfl))) (fun _ _ _ _ _ => (pts_one (pt_cmpR (op_notIn_seq_K K) (pv 4) (pv 2) (by rfl)))) (fun _ _ _ _ _ => (pv 4)))
      (pss_one (ps_ret (pe_mk (ok_Picture_init T) (hr.mono (by decide)) (by rfl) (pa_cons (pv 1) (pa_cons (pe_callB call_len_seq (by rfl) T.n_len PySem.boot_len (pa_cons (pe_fld (pv 0) rfl) pa_nil)) (pa_cons (pe_dc (own := [("place", 4)]) (g := (gName 4)) (tt := tYes) (by rfl) sc_seen.nd (pi_list (pv 3)) (blkOk_by (own := [("place", 4)]) (N := N_seen) (sc := defScope s_seen) (by decide +kernel)) (fun _ _ _ _ _ => (pg_name (i := 4) sc_seen.nd rfl (Or.inl rfl))) (fun _ _ _ _ _ => pts_nil) (fun _ _ _ _ _ => (pv 4)) (fun _ _ _ _ _ => (pe_cal (ok_raw_telling T) (hr.mono (by decide)) (by rfl) (pa_cons (pe_fld_K K (pv 0) rfl) (pa_cons (pv 1) (pa_cons (pv 4) pa_nil)))))) pa_nil))))))))), ?_⟩
    refine ⟨_, rfl, va, u, d, rfl, hV, hu4, hd4, fun H1 e1 => ?_⟩
    refine ⟨_, rfl, tr, cTree K, dx, _, _, rfl, e1 _ _ hTr, T.clTree, T.naTree_hung, rfl, a, _, rfl, .inr (ex_t e1 hA), _, rfl, la, lost, hs.length, ?_, ex_t e1 hL, hw, hln, hlb, fun H2 e2 => ?_⟩
    · rw [List.length_map]; rfl
    have e02 := e1.trans e2
    -- places
    refine ⟨_, rfl, tr, cTree K, dx, _, _, rfl, e02 _ _ hTr, T.clTree, T.naTree_hung, rfl, a, _, rfl, .inr (ex_t e02 hA), _, _, rfl, rfl, _, rfl, ?_, ?_, ?_⟩
    · rw [List.length_map]; omega
    · rw [List.length_map]; omega
    refine lcR0 (n := hs.length + 1) (by rw [List.length_map]; omega) (f := fun i => !lost.contains i) (E := fun i y _ => y = VI i) (fun _ => mono_eq) (by omega) (fun D i H' hD e hys hi Qy Qn qy qn => ?_) (fun D ys H3 hD e3 hy hp3 => ?_)
    · refine ⟨rfl, _, rfl, _, rfl, la, vns lost, rfl, .inr (ex_t (e02.trans e) hL), rfl, vns_flat _, _, rfl, ?_⟩
      show if (!inV (VI i) (vns lost)) = true then _ else _
      rw [inV_vns]
      refine ite2 (fun h => ?_) (fun h => ?_)
      · exact ⟨_, rfl, qy _ _ (Ex.refl _) h rfl⟩
      · exact qn _ (by simpa using h) (Ex.refl _)
    · have eY : ys = vns (places hs.length lost) := paired_eq (f := fun i => VI i) hp3
      subst eY
      have e03 := e02.trans e3
      refine ⟨_, rfl, _, rfl, tr, cTree K, dx, _, _, rfl, e03 _ _ hTr, T.clTree, T.naTree_hung, rfl, a, _, rfl, .inr (ex_t e03 hA), ?_⟩
      refine ⟨_, rfl, D, rfl, ⟨_, .inl (.inl hy)⟩, ?_⟩
      have hpn : (vns (places hs.length lost)).length = (places hs.length lost).length := List.length_map _
      have hpl := places_len hs.length lost
      refine dcJ (J := Itl K D) (n := (places hs.length lost).length) (kf := fun i => (((places hs.length lost).getD i 0 : Nat) : Int)) (E := fun i y H => ∀ p, (places hs.length lost)[i]? = some p → TelAt H y (tel hs u d p)) (fun i y H H' e h p hp => (h p hp).mono e) (by omega)
        (fun i H' e hi => ⟨_, VI (places hs.length lost)[i], .inl (.inl (e _ _ hy)), by rw [List.getElem?_map, List.getElem?_eq_getElem hi]; rfl⟩) (fun H' e => ⟨_, .inl (.inl (e _ _ hy)), by omega⟩)
        (fun D' i x H' H'' hD' e hys hi hyl Qy qy => ?_) (fun D' kvs zs H4 hD' e4 hkv hk hp4 hlen => ?_)
      · obtain ⟨rfl, hx⟩ := hyl
        obtain ⟨pl, hpl, rfl⟩ := vns_at (hx _ (.inl (.inl (e _ _ hy))))
        obtain ⟨ys, hys⟩ := hys
        have hm := mem_places.mp (List.mem_of_getElem? hpl)
        have e0 := e03.trans e
        refine ⟨rfl, _, rfl, ?_⟩
        have hD'' : ∀ (v : V) (H4 : Hp), Ex H'' H4 → TelAt H4 v (tel hs u d pl) → TelAt (del H4 D') v (tel hs u d pl) := fun v H4 e5 h5 => by
          obtain ⟨a1, r1, q1, ys1, g1, g2, g3, g4, g5⟩ := h5
          have gD := e5 _ _ hys
          have nx : ∀ {b : Addr} {xs : List V}, H4 b = some (.tup xs) → (del H4 D') b = some (.tup xs) := fun {b xs} hb => by
            rw [del_ne (ne_of hb gD (by intro z; cases z))]; exact hb
          exact ⟨a1, r1, q1, ys1, g1, nx g2, nx g3, nx g4, paired_imp g5 fun _ _ _ ⟨t, k1, k2⟩ => ⟨t, k1, nx k2⟩⟩
        refine ⟨_, rfl, tr, cTree K, dx, _, _, rfl, e0 _ _ hTr, T.clTree, T.naTree_hung, rfl, _, rfl, _, rfl, a, va, hs, u, d, pl, rfl, ex_t e0 hA, ex_t e0 hV, Tr, hm.1, hd4, fun v5 H5 e5 h5 => ?_⟩
        have ekf : (V.int (((places hs.length lost).getD i 0 : Nat) : Int)) = VI pl := by rw [List.getD_eq_getElem?_getD, hpl]; rfl
        have q5 := qy v5 H5 e5 (fun p hp => by
          rw [hpl] at hp
          cases hp
          exact hD'' v5 H5 e5 h5)
        rw [ekf] at q5
        exact q5
      · have hp5 : Paired (fun p y => TelAt (del H4 D') y (tel hs u d p)) (places hs.length lost) zs := paired_range hp4
        have ekv : kvs = ((places hs.length lost).map fun p : Nat => (Sum.inl (p : Int) : Key)).zip zs := by
          rw [hk]
          have em : (List.range (places hs.length lost).length).map (fun i => (Sum.inl (((places hs.length lost).getD i 0 : Nat) : Int) : Key)) = (places hs.length lost).map fun p : Nat => (Sum.inl (p : Int) : Key) := by
            rw [show (fun i => (Sum.inl (((places hs.length lost).getD i 0 : Nat) : Int) : Key)) = (fun p : Nat => (Sum.inl (p : Int) : Key)) ∘ (fun i => (places hs.length lost).getD i 0) from rfl, ← List.map_map]
            congr 1
            exact range_map_at fun i x h => by rw [List.getD_eq_getElem?_getD, h]; rfl
          rw [em]
          refine merge_nil ?_
          rw [zip_fst (paired_len hp5)]
          exact inl_nodup (nodup_lt (places_sorted _ _))
        have hTold : ToldAt H4 kvs hs u d lost := by
          rw [ekv]
          exact paired_imp (zip_told hp5) fun _ _ _ ⟨k1, k2⟩ => ⟨k1, k2.mono ex_del⟩
        intro x dx' nx ndx nex
        have e04 := e03.trans e4
        have e5 : Ex H4 (upd (upd H4 dx' (.own x)) x (.ins (cPic K) dx' [])) := fun b o hb => by
          rw [upd_ne (ne_of_none hb nx), upd_ne (ne_of_none hb ndx)]
          exact hb
        refine ⟨x, dx', va, D', kvs, hs, u, d, lost, ?_, upd_same, ex_t (e04.trans e5) hV, hu4, hd4, Tr, e5 _ _ hkv, hTold.mono e5, fun z => by have := hlb 0 z; omega, fun t' H6 e6 ht' hx6 => ⟨rfl, ?_⟩⟩
        · rw [List.length_map]; rfl
        have e46 : Ex H4 H6 := fun b o hb => e6 b o (ne_of_none hb nx) (e5 b o hb)
        exact q _ H6 (e04.trans e46) ⟨x, dx', va, t', kvs, rfl, hx6, ex_t (e04.trans e46) hV, ht', hTold.mono e46⟩
def sp_does_fit (K : PySem.W.Frag) : Sp := fun vs H Q _ => ∃ (v : V) (fa : Addr) (hs fs : List Nat) (u d : Nat) (lost : List Nat), vs = [v, .ref fa] ∧ PicAt K H v hs u d lost ∧ SqT K H fa (vns fs) ∧ TreeOk hs ∧ TreeOk fs ∧ fs.length = hs.length ∧ d ≤ 4 ∧ (∀ p ∈ places hs.length lost, tel fs u d p = tel hs u d p) ∧
  ∀ H', Ex H H' → Q (.bl true) H'
theorem ok_does_fit (T : Txt K mg) : Callee P w K mg base 4 "does_fit" ["picture", "hung"] (sp_does_fit K) := by
  refine callee_mk T.f_does_fit T.g_does_fit (fun fd F => ?_) (fun _ _ _ _ _ _ us hl => match us, hl with | [_, _], _ => rfl)
  refine F.ok sc_does_fit (fun vs H Q E h => ?_) (fun cdv A outer s H vs Q E hr h => ?_)
  · obtain ⟨v, fa, hs, fs, u, d, lost, rfl, _⟩ := h; rfl
  · obtain ⟨v, fa, hs, fs, u, d, lost, rfl, ⟨x, dx, va, t, kvs, rfl, hX, hV, hT, hK⟩, hF, Tr, Tf, hlen, hd4, hfit, q⟩ := h
    have hu := hu_of hr
    have h40 := Tr.n40
    refine ⟨_, (pss_cons (ps_if (pt_cmpR op_ne (pe_callB call_len_seq (by rfl) T.n_len PySem.boot_len (pa_cons (pv 1) pa_nil)) (pe_fld (pv 0) rfl) (nomark _)) (pss_one (ps_ret pe_bl)) pss_nil)
      (pss_one (ps_ret (pe_callB (cr_all rfl) (by rfl) T.n_all (by decide +kernel) (pa_cons (pe_lc (own := [("place", 2)]) (g := (gName 2)) (tt := tYes) (by rfl) sc_does_fit.nd (pi_list (pe_callB (call_sortedDI rfl) (by rfl) T.n_sorted (by decide +kernel) (pa_cons (pe_fld (pv 0) rfl) pa_nil))) (blkOk_by (own := [("place", 2)]) (N := N_does_fit) (sc := defScope s_does_fit) (by decide +kernel)) (fun _ _ _ _ _ => (pg_name (i := 2) sc_does_fit.nd rfl (Or.inl rfl))) (fun _ _ _ _ _ => pts_nil) (fun _ _ _ _ _ => (pe_cmpR (op_eqD_K K hr.units) (pe_cal (ok_raw_telling T) (hr.mono (by decide)) (by rfl) (pa_cons (pv 1) (pa_cons (pe_fld_K K (pv 0) rfl) (pa_cons (pv 2) pa_nil)))) (pe_dget hu (pe_fld_K K (pv 0) rfl) (pv 2) (fun _ _ => rfl)) (nomark _)))) pa_nil))))), ?_⟩
    refine ⟨.ref fa, rfl, fa, _, rfl, .inr hF, _, rfl, x, cPic K, dx, _, _, rfl, hX, T.clPicture, T.naPicture_blocks, pic_blocks _ _ _, rfl, _, rfl, ?_⟩
    have ed : (!decide (V.int (((vns fs).length : Nat) : Int) = VI hs.length)) = false := by
      rw [List.length_map, hlen]; simp
    rw [ed]
    refine iteF ?_
    refine ⟨_, rfl, x, cPic K, dx, _, _, rfl, hX, T.clPicture, T.naPicture_told, pic_told _ _ _, t, kvs, (places hs.length lost).map fun p : Nat => (p : Int), rfl, .inl hT, (hK).keys, ?_, fun ys' sl hperm hsrt hsl => ?_⟩
    · rw [List.length_map]; have := places_len hs.length lost; omega
    obtain rfl := sort_nats (places_sorted _ _) hperm hsrt
    rw [vns_cast]
    have hsl5 : (upd H sl (.lst (vns (places hs.length lost)))) sl = some (.lst (vns (places hs.length lost))) := upd_same
    have e5 : Ex H (upd H sl (.lst (vns (places hs.length lost)))) := Ex.new hsl
    generalize upd H sl (.lst (vns (places hs.length lost))) = H5 at hsl5 e5
    refine ⟨sl, rfl, ⟨_, .inl (.inl hsl5)⟩, ?_⟩
    refine lcL (K := K) (xs := vns (places hs.length lost)) (.inl (.inl hsl5)) (f := fun _ => true) (E := fun _ y _ => y = .bl true) (fun _ => mono_eq) (by rw [List.length_map]; have := places_len hs.length lost; omega) (fun D i z H' hD e hys hz Qy Qn qy qn => ?_) (fun D ys H6 hD e6 hy hp => ?_)
    · obtain ⟨pl, hpl, rfl⟩ := vns_at hz
      have hm := List.mem_of_getElem? hpl
      have e0 := e5.trans e
      have hK' := hK.mono e0
      obtain ⟨v, hv, hTel⟩ := (hK').val hm
      refine yes_go rfl ?_
      refine ⟨_, rfl, _, rfl, x, cPic K, dx, _, _, rfl, e0 _ _ hX, T.clPicture, T.naPicture_view, pic_view _ _ _, _, rfl, fa, va, fs, u, d, pl, rfl, ex_t e0 hF, ex_t e0 hV, Tf, by rw [hlen]; exact (mem_places.mp hm).1, hd4, fun v7 H7 e7 h7 => ?_⟩
      refine ⟨_, rfl, x, cPic K, dx, _, _, rfl, e7 _ _ (e0 _ _ hX), T.clPicture, T.naPicture_told, pic_told _ _ _, VI pl, rfl, t, v, rfl, ?_, ?_⟩
      · have := DGet.k (k := Sum.inl (pl : Int)) (e7 _ _ (e0 _ _ hT))
        rw [hv] at this
        exact this
      rw [hfit pl hm] at h7
      refine ⟨telD (tel hs u d pl), telD (tel hs u d pl), h7.dp, (hTel.mono e7).dp, telD_shaped _, telD_shaped _, ?_⟩
      refine qy _ _ e7 rfl ?_
      rw [telD_refl]
    · dsimp only [tNil]
      exact all_of hp (.inl (.inl hy)) (q H6 (e5.trans e6))
end
end Fv
end
section
/-! what is told; known ties; ways up -/
namespace Fv
open PySem PySem.Spec PyProof.Rows L2 Evl
theorem cat_go {K : PySem.W.Frag} {H : Hp} {a b : Addr} {xs ys : List V} {Q : VK} (ha : SqT K H a xs) (hb : SqT K H b ys) (hl : xs.length + ys.length ≤ 100000) (q : ∀ p H1, Ex H H1 → SqT K H1 p (xs ++ ys) → Q (.ref p) H1) : rCatA K (.ref a) (.ref b) H Q := by
  refine ⟨a, b, xs, ys, rfl, rfl, ha, hb, sz_of hl, fun e => ?_, fun _ e => ?_, fun _ _ p hp => q p _ (Ex.new hp) (.inl (.inl upd_same))⟩
  · subst e; exact q b H (Ex.refl H) hb
  · subst e; exact q a H (Ex.refl H) (by rw [List.append_nil]; exact ha)
theorem flat_len {α β : Type} {f : α → List β} {m : Nat} : ∀ {l : List α}, (∀ a ∈ l, (f a).length ≤ m) → (l.flatMap f).length ≤ m * l.length
  | [], _ => by simp
  | a :: r, h => by
    rw [List.flatMap_cons, List.length_append, List.length_cons, Nat.mul_succ]
    have h1 := h a (List.mem_cons_self ..)
    have h2 := flat_len (l := r) fun b hb => h b (List.mem_cons_of_mem _ hb)
    omega
theorem tel_row_len {hs : List Nat} (T : TreeOk hs) (u d p : Nat) : (tel hs u d p).1.length ≤ 40 := by
  show ((chainF hs p).take u).length ≤ 40
  rw [List.length_take]
  have h1 := chain_len hs hs.length p
  have h2 := T.n40
  have h3 : (chainF hs p).length ≤ hs.length := h1
  omega
theorem tel_tie_len {hs : List Nat} (T : TreeOk hs) (u d p : Nat) : (tel hs u d p).2.length ≤ 40 := Nat.le_trans (tiesC_len hs d p) T.n40
theorem tiesOf_len {hs : List Nat} (T : TreeOk hs) (u d p q : Nat) : (tiesOf (tel hs u d p) q).length ≤ 80 := by
  unfold tiesOf
  rw [List.length_append, List.length_zip]
  have h1 := tel_row_len T u d p
  have h2 := tel_tie_len T u d p
  omega
theorem toldF_len {hs : List Nat} (T : TreeOk hs) (u d : Nat) (lost : List Nat) : (toldF hs u d lost).length ≤ 3280 := by
  have h1 : (toldF hs u d lost).length ≤ 80 * (places hs.length lost).length := flat_len fun p _ => tiesOf_len T u d p p
  have h2 := places_len hs.length lost
  have h3 := T.n40
  have h4 : 80 * (places hs.length lost).length ≤ 80 * 41 := Nat.mul_le_mul_left 80 (by omega)
  omega
theorem flat_snoc {α β : Type} {f : α → List β} {l : List α} {j : Nat} {x : α} (h : l[j]? = some x) : (l.take (j + 1)).flatMap f = (l.take j).flatMap f ++ f x := by
  rw [List.take_add_one, h, List.flatMap_append]
  congr 1
  show f x ++ [] = f x
  rw [List.append_nil]
/-- the dict of known ties -/
def TiesAt (H : Hp) (t : Addr) (hs : List Nat) (k : Nat → Bool) : Prop := ∃ kvs, H t = some (.dK kvs) ∧ kvs.length ≤ 10000 ∧ ∀ b : Nat, valV kvs (Sum.inl (b : Int)) = if k b = true then some (VI (par hs b)) else none
theorem TiesAt.mono {H H' : Hp} {t : Addr} {hs : List Nat} {k : Nat → Bool} (e : Ex H H') (h : TiesAt H t hs k) : TiesAt H' t hs k := by
  obtain ⟨kvs, h1, h2, h3⟩ := h
  exact ⟨kvs, e _ _ h1, h2, h3⟩
theorem way_last {hs : List Nat} {k : Nat → Bool} {x : Nat} (h : k x = false) : ∀ m, wayF hs k m x = [x]
  | 0 => rfl
  | m + 1 => by unfold wayF; rw [if_neg (by rw [h]; decide)]
theorem wayF_len (hs : List Nat) (k : Nat → Bool) : ∀ m x, (wayF hs k m x).length ≤ m + 1
  | 0, _ => Nat.le_refl _
  | m + 1, x => by
    unfold wayF
    rw [List.length_cons]
    split
    · exact Nat.succ_le_succ (wayF_len hs k m _)
    · simp
section
variable {P : Program} {w : World} {K : PySem.W.Frag} {mg : Str → Option Value} {base : Heap}
def sp_told_ties (K : PySem.W.Frag) : Sp := fun vs H Q _ => ∃ (v : V) (hs : List Nat) (u d : Nat) (lost : List Nat), vs = [v] ∧ PicAt K H v hs u d lost ∧ TreeOk hs ∧ ∀ l ys H', H l = none → Ex H H' → H' l = some (.lst ys) → PT (toldF hs u d lost) ys H' → Q (.ref l) H'
theorem ok_told_ties (T : Txt K mg) : Callee P w K mg base 1 "told_ties" ["picture"] (sp_told_ties K) := by
  refine callee_mk T.f_told_ties T.g_told_ties (fun fd F => ?_) (fun _ _ _ _ _ _ us hl => match us, hl with | [_], _ => rfl)
  refine F.ok sc_told_ties (fun vs H Q E h => ?_) (fun cdv A outer s H vs Q E hr h => ?_)
  · obtain ⟨v, hs, u, d, lost, rfl, _⟩ := h; rfl
  · obtain ⟨v, hs, u, d, lost, rfl, ⟨x, dx, va, t, kvs, rfl, hX, hV, hT, hK⟩, Tr, q⟩ := h
    have hu := hu_of hr
    have h40 := Tr.n40
    have hpl := places_len hs.length lost
    refine ⟨_, (pss_cons (ps_set (i := 1) sc_told_ties.nd rfl (Or.inl rfl) (pe_lst pa_nil))
      (pss_cons (ps_for PassesOwn.never rfl (pi_list (pe_callB (call_sortedDI rfl) (by rfl) T.n_sorted (by decide +kernel) (pa_cons (pe_fld (pv 0) rfl) pa_nil))) (pg_name (i := 2) sc_told_ties.nd rfl (Or.inl rfl))
        (pss_cons (ps_asg (pe_dget hu (pe_fld (pv 0) rfl) (pv 2) (fun _ _ => rfl)) (pg_tup (by rfl) (pgs_cons (pg_name (i := 3) sc_told_ties.nd rfl (Or.inl rfl)) (pgs_cons (pg_name (i := 4) sc_told_ties.nd rfl (Or.inl rfl)) pgs_nil))))
      (pss_cons (ps_expr (pe_bm PySem.F.plainAttrs_list PySem.F.slot_list_extend PySem.F.type_list_extend mt_extendT (pv 1) (pa_cons (pv 4) pa_nil)))
      (pss_one (ps_expr (pe_bm PySem.F.plainAttrs_list PySem.F.slot_list_extend PySem.F.type_list_extend mt_extend (pv 1) (pa_cons (pe_lc (own := [("block", 5), ("here", 6)]) (g := (gTup K 2 (gCons (gName 5) (gCons (gName 6) gNil)))) (tt := tYes) (by rfl) sc_told_ties.nd (RZ.pi_zipA (by rfl) T.n_zip (pa_cons (pe_op op_catA (pe_tup (pa_cons (pv 2) pa_nil)) (pv 3)) (pa_cons (pv 3) pa_nil))) (blkOk_by (own := [("block", 5), ("here", 6)]) (N := N_told_ties) (sc := defScope s_told_ties) (by decide +kernel)) (fun _ _ _ _ _ => (pg_tup (by rfl) (pgs_cons (pg_name (i := 5) sc_told_ties.nd rfl (Or.inl rfl)) (pgs_cons (pg_name (i := 6) sc_told_ties.nd rfl (Or.inl rfl)) pgs_nil)))) (fun _ _ _ _ _ => pts_nil) (fun _ _ _ _ _ => (pe_tup (pa_cons (pv 5) (pa_cons (pv 6) pa_nil))))) pa_nil)))))))
      (pss_one (ps_ret (pv 1))))), ?_⟩
    refine ⟨Nat.zero_le _, fun lf hlf => ?_⟩
    have e1 : Ex H (upd H lf (.lst [])) := Ex.new hlf
    have hF1 : (upd H lf (.lst [])) lf = some (.lst []) := upd_same
    generalize upd H lf (.lst []) = H1 at e1 hF1
    have hK1 := hK.mono e1
    refine ⟨_, rfl, x, cPic K, dx, _, _, rfl, e1 _ _ hX, T.clPicture, T.naPicture_told, pic_told _ _ _, t, kvs, (places hs.length lost).map fun p : Nat => (p : Int), rfl, .inl (e1 _ _ hT), hK1.keys, ?_, fun ys' sl hperm hsrt hsl => ?_⟩
    · rw [List.length_map]; omega
    obtain rfl := sort_nats (places_sorted _ _) hperm hsrt
    rw [vns_cast]
    have hsl5 : (upd H1 sl (.lst (vns (places hs.length lost)))) sl = some (.lst (vns (places hs.length lost))) := upd_same
    have e5 : Ex H1 (upd H1 sl (.lst (vns (places hs.length lost)))) := Ex.new hsl
    generalize upd H1 sl (.lst (vns (places hs.length lost))) = H5 at hsl5 e5
    have nsf : sl ≠ lf := (ne_of_none hF1 hsl).symm
    refine ⟨sl, rfl, ⟨_, .inl (.inl hsl5)⟩, ?_⟩
    refine for_list (K := K) (xs := vns (places hs.length lost)) (fun i σ H' => ∃ (v2 v3 v4 v5 v6 : Option V) (fs : List V), σ = [some (.ref x), some (.ref lf), v2, v3, v4, v5, v6] ∧ Ex H H' ∧ H' sl = some (.lst (vns (places hs.length lost))) ∧ H' lf = some (.lst fs) ∧ PT (((places hs.length lost).take i).flatMap fun p => tiesOf (tel hs u d p) p) fs H')
      ⟨none, none, none, none, none, [], rfl, e1.trans e5, hsl5, e5 _ _ hF1, .nil⟩ (fun i σ H' _ ⟨_, _, _, _, _, _, _, _, h, _⟩ => .inl (.inl h)) ?_ ?_
    · rintro i y σ H2 hy ⟨v2, v3, v4, v5, v6, fs, rfl, e2, hS2, hF2, pF⟩
      obtain ⟨p, hp, rfl⟩ := vns_at hy
      have hm := List.mem_of_getElem? hp
      obtain ⟨tv, htv, ⟨a, r, g, ys, rfl, hA, hR, hG, hP⟩⟩ := (hK.mono e2).val hm
      refine ⟨_, rfl, x, cPic K, dx, _, _, rfl, e2 _ _ hX, T.clPicture, T.naPicture_told, pic_told _ _ _, VI p, rfl, t, .ref a, rfl, ?_, ?_⟩
      · have := DGet.k (k := Sum.inl (p : Int)) (e2 _ _ hT)
        rw [htv] at this
        exact this
      refine ⟨a, _, rfl, .inl (.inl hA), rfl, _, _, rfl, _, _, rfl, rfl, ?_⟩
      have hfl : fs.length ≤ 3280 := by
        rw [← paired_len pF]
        have h1 : (((places hs.length lost).take i).flatMap fun p => tiesOf (tel hs u d p) p).length ≤ 80 * ((places hs.length lost).take i).length := flat_len fun p _ => tiesOf_len Tr u d p p
        have h2 : ((places hs.length lost).take i).length ≤ 41 := by rw [List.length_take]; omega
        have h4 : 80 * ((places hs.length lost).take i).length ≤ 80 * 41 := Nat.mul_le_mul_left 80 h2
        omega
      have hyl : ys.length ≤ 40 := by rw [← paired_len hP]; exact tel_tie_len Tr u d p
      have hrl := tel_row_len Tr u d p
      refine ⟨.ref lf, rfl, .inl ⟨rfl, _, .inl (.inl hF2)⟩, .ref g, rfl, lf, g, fs, ys, rfl, rfl, hF2, .inl (.inl hG), sz_of (by omega), ?_⟩
      have up2 : ∀ {b : Addr} {xs : List V}, H2 b = some (.tup xs) → (upd H2 lf (.lst (fs ++ ys))) b = some (.tup xs) := fun hb => by rw [upd_ne (ne_of hb hF2 (by intro z; cases z))]; exact hb
      have hR3 := up2 hR
      have pF3 : PT _ (fs ++ ys) (upd H2 lf (.lst (fs ++ ys))) := PT.app (pF.upd (o := .lst (fs ++ ys)) hF2) (hP.upd (o := .lst (fs ++ ys)) hF2)
      have hF3 : (upd H2 lf (.lst (fs ++ ys))) lf = some (.lst (fs ++ ys)) := upd_same
      have hS3 : (upd H2 lf (.lst (fs ++ ys))) sl = some (.lst (vns (places hs.length lost))) := by rw [upd_ne nsf]; exact hS2
      have e3 : Ex H (upd H2 lf (.lst (fs ++ ys))) := e2.mut hlf
      generalize upd H2 lf (.lst (fs ++ ys)) = H3 at hR3 pF3 hF3 hS3 e3
      refine ⟨.ref lf, rfl, .inl ⟨rfl, _, .inl (.inl hF3)⟩, ?_⟩
      refine ⟨_, rfl, (by show 1 ≤ sizeLine; decide), fun pt hpt => ?_⟩
      refine ⟨.ref r, rfl, ?_⟩
      dsimp only [tNil]
      have e4 := Ex.new (o := .tup [VI p]) hpt
      refine cat_go (K := K) (a := pt) (b := r) (xs := [VI p]) (ys := vns (tel hs u d p).1) (.inl (.inl upd_same)) (.inl (.inl (e4 _ _ hR3))) (by rw [List.length_map]; show 1 + _ ≤ _; omega) (fun ct H5 e5 hct => ?_)
      have e35 := e4.trans e5
      have hR5 : SqT K H5 r (vns (tel hs u d p).1) := .inl (.inl (e35 _ _ hR3))
      refine ⟨.ref r, rfl, ct, r, [VI p] ++ vns (tel hs u d p).1, vns (tel hs u d p).1, rfl, .inr ⟨hct, hR5, ?_⟩⟩
      have hcl : [VI p] ++ vns (tel hs u d p).1 = vns (p :: (tel hs u d p).1) := rfl
      rw [hcl] at hct
      refine lcJ (n := (tel hs u d p).1.length) (f := fun _ => true) (E := fun i y H => ∀ q, ((p :: (tel hs u d p).1).zip (tel hs u d p).1)[i]? = some q → ∃ t, y = .ref t ∧ H t = some (.tup [VI q.1, VI q.2])) (fun i y H H' e h q hq => let ⟨t, h1, h2⟩ := h q hq; ⟨t, h1, e _ _ h2⟩) (by omega) (fun i H' e hi => ?_) (fun H' e => ?_) (fun D i z H' H'' hD e hys hi hyl Qy Qn qy qn => ?_) (fun D zs H6 hD e6 hy6 hp6 => ?_)
      · have hi2 : i < (p :: (tel hs u d p).1).length := by rw [List.length_cons]; omega
        refine ⟨_, _, VI (p :: (tel hs u d p).1)[i], VI (tel hs u d p).1[i], ex_t e hct, ex_t e hR5, ?_, ?_⟩
        · rw [List.getElem?_map, List.getElem?_eq_getElem hi2]; rfl
        · rw [List.getElem?_map, List.getElem?_eq_getElem hi]; rfl
      · exact ⟨_, _, ex_t e hct, ex_t e hR5, .inr (by rw [List.length_map]; exact Nat.le_refl _)⟩
      · obtain ⟨tt, x1, x2, rfl, nT, rfl, f1, f2⟩ := hyl
        obtain ⟨n1, g1, rfl⟩ := vns_at (f1 _ (ex_t e hct))
        obtain ⟨n2, g2, rfl⟩ := vns_at (f2 _ (ex_t e hR5))
        obtain ⟨zs, hys⟩ := hys
        have e7 := Ex.new (o := .tup [VI n1, VI n2]) nT
        refine ⟨tt, [VI n1, VI n2], rfl, .inl (.inl upd_same), rfl, VI n1, [VI n2], rfl, VI n2, [], rfl, rfl, yes_go rfl ?_⟩
        refine ⟨_, rfl, _, rfl, (by show 2 ≤ sizeLine; decide), fun t2 ht2 => ?_⟩
        refine qy _ _ (e7.trans (Ex.new ht2)) rfl (fun q hq => ⟨t2, rfl, ?_⟩)
        rw [List.getElem?_zip_eq_some] at hq
        rw [g1, g2] at hq
        have h1 := Option.some.inj hq.1
        have h2 := Option.some.inj hq.2
        rw [del_ne (ne_of_none (e7 _ _ hys) ht2).symm, upd_same, h1, h2]
      · have hzl : ((p :: (tel hs u d p).1).zip (tel hs u d p).1).length = (tel hs u d p).1.length := by rw [List.length_zip, List.length_cons]; omega
        rw [filter_true, ← hzl] at hp6
        have h5 : PT ((p :: (tel hs u d p).1).zip (tel hs u d p).1) zs H6 := PT.mono ex_del (paired_range (F := fun (q : Nat × Nat) y => ∃ t, y = .ref t ∧ (del H6 D) t = some (.tup [VI q.1, VI q.2])) hp6)
        have e36 := e35.trans e6
        have hF6 := e36 _ _ hF3
        refine ⟨lf, D, fs ++ ys, zs, rfl, rfl, hF6, hy6, sz_of ?_, ?_⟩
        · rw [List.length_append, ← paired_len h5, hzl]; omega
        · refine ⟨_, _, _, _, _, (fs ++ ys) ++ zs, rfl, (e3.trans e36).mut hlf, by rw [upd_ne nsf]; exact e36 _ _ hS3, upd_same, ?_⟩
          rw [flat_snoc hp]
          have h7 := PT.app ((pF3.mono e36).upd (o := .lst ((fs ++ ys) ++ zs)) hF6) (h5.upd (o := .lst ((fs ++ ys) ++ zs)) hF6)
          rw [List.append_assoc] at h7
          exact h7
    · rintro σ H2 ⟨v2, v3, v4, v5, v6, fs, rfl, e2, hS2, hF2, pF⟩
      rw [List.length_map, List.take_length] at pF
      exact ⟨_, rfl, q lf fs H2 hlf e2 hF2 pF⟩
def sp_ties_known (K : PySem.W.Frag) : Sp := fun vs H Q _ => ∃ (v : V) (hs : List Nat) (u d : Nat) (lost : List Nat), vs = [v] ∧ PicAt K H v hs u d lost ∧ TreeOk hs ∧ ∀ t H', Ex H H' → TiesAt H' t hs (kn hs u d lost) → Q (.ref t) H'
theorem ok_ties_known (T : Txt K mg) : Callee P w K mg base 2 "ties_known" ["picture"] (sp_ties_known K) := by
  refine callee_mk T.f_ties_known T.g_ties_known (fun fd F => ?_) (fun _ _ _ _ _ _ us hl => match us, hl with | [_], _ => rfl)
  refine F.ok sc_ties_known (fun vs H Q E h => ?_) (fun cdv A outer s H vs Q E hr h => ?_)
  · obtain ⟨v, hs, u, d, lost, rfl, _⟩ := h; rfl
  · obtain ⟨v, hs, u, d, lost, rfl, hPic, Tr, q⟩ := h
    have hu := hu_of hr
    refine ⟨_, (pss_cons (ps_set (i := 1) sc_ties_known.nd rfl (Or.inl rfl) pe_dnewK)
      (pss_cons (ps_for PassesOwn.never rfl (pi_list (pe_cal (ok_told_ties T) (hr.mono (by decide)) (by rfl) (pa_cons (pv 0) pa_nil))) (pg_tup (by rfl) (pgs_cons (pg_name (i := 2) sc_ties_known.nd rfl (Or.inl rfl)) (pgs_cons (pg_name (i := 3) sc_ties_known.nd rfl (Or.inl rfl)) pgs_nil)))
        (pss_one (ps_if (PW.pt (pw_or (pt_cmpR op_eq (pv 2) (pe_gi (by rfl) T.HEAD) (nomark _)) (pw_or1 (pt_cmpR op_ne (pe_dsetd (pv 1) (pv 2) (pv 3) m2_setd) (pv 3) (nomark _))))) (pss_one (ps_ret pe_non)) pss_nil)))
      (pss_one (ps_ret (pv 1))))), ?_⟩
    intro t ht
    have e1 : Ex H (upd H t (.dK [])) := Ex.new ht
    refine ⟨v, rfl, v, hs, u, d, lost, rfl, hPic.mono e1, Tr, fun l ys H2 hl e2 hL pL => ?_⟩
    have hT2 := e2 _ _ (upd_same : (upd H t (.dK [])) t = some (.dK []))
    have e12 := e1.trans e2
    refine ⟨l, rfl, ⟨_, .inl (.inl hL)⟩, ?_⟩
    have hlen := paired_len pL
    have htl := toldF_len Tr u d lost
    refine for_list (K := K) (xs := ys) (fun i σ H' => ∃ (v2 v3 : Option V) (kvs : List (Key × V)), σ = [some v, some (.ref t), v2, v3] ∧ Ex H H' ∧ H' l = some (.lst ys) ∧ PT (toldF hs u d lost) ys H' ∧ H' t = some (.dK kvs) ∧ kvs.length ≤ i ∧ ∀ b : Nat, valV kvs (Sum.inl (b : Int)) = if (((toldF hs u d lost).take i).any fun q => decide (q.1 = b)) = true then some (VI (par hs b)) else none)
      ⟨none, none, [], rfl, e12, hL, pL, hT2, Nat.le_refl _, fun b => rfl⟩ (fun i σ H' _ ⟨_, _, _, _, _, h, _⟩ => .inl (.inl h)) ?_ ?_
    · rintro i y σ H3 hy ⟨v2, v3, kvs, rfl, e3, hL3, pL3, hT3, hkl, hk⟩
      obtain ⟨⟨b, h⟩, hq, tt, rfl, htt⟩ := paired_at pL3 hy
      obtain ⟨g1, g2, g3⟩ := toldF_ok Tr (List.mem_of_getElem? hq)
      dsimp only at g1 g2 g3 htt
      subst g1
      have hil : i < ys.length := (List.getElem?_eq_some_iff.mp hy).1
      have nlt : l ≠ t := ne_of hL3 hT3 (by intro z; cases z)
      refine ⟨tt, _, rfl, .inl (.inl htt), rfl, _, _, rfl, _, _, rfl, rfl, ?_⟩
      refine ⟨_, rfl, rfl, _, rfl, ?_⟩
      have ed : decide (V.int (b : Int) = V.int 0) = false := by
        rw [show (V.int 0) = V.int ((0 : Nat) : Int) from rfl, dec_vI]; simp [g2]
      have hsn : ∀ c : Nat, (((toldF hs u d lost).take (i + 1)).any fun q => decide (q.1 = c)) = ((((toldF hs u d lost).take i).any fun q => decide (q.1 = c)) || decide (b = c)) := fun c => by
        rw [List.take_add_one, hq, List.any_append]
        simp
      rw [ed]
      refine iteF ?_
      refine ⟨_, rfl, t, rfl, .inl ⟨kvs, .inl hT3⟩, _, rfl, _, rfl, kvs, Sum.inl (b : Int), hT3, rfl, sz_lt (by omega), fun v hv => ?_, fun hv => ?_⟩
      · rw [hk b] at hv
        split at hv
        · rename_i hb
          cases hv
          refine ⟨_, rfl, rfl, _, rfl, ?_⟩
          rw [show (!decide (VI (par hs b) = VI (par hs b))) = false by simp]
          refine iteF ?_
          refine ⟨_, _, kvs, rfl, e3, hL3, pL3, hT3, by omega, fun c => ?_⟩
          rw [hk c, hsn c]
          by_cases hc : b = c
          · subst hc
            rw [hb]
            simp
          · rw [decide_eq_false hc, Bool.or_false]
        · cases hv
      · refine ⟨_, rfl, rfl, _, rfl, ?_⟩
        rw [show (!decide (VI (par hs b) = VI (par hs b))) = false by simp]
        refine iteF ?_
        refine ⟨_, _, _, rfl, e3.mut ht, by rw [upd_ne nlt]; exact hL3, paired_imp pL3 (fun _ _ _ ⟨t', h1, h2⟩ => ⟨t', h1, by rw [upd_ne (ne_of h2 hT3 (by intro z; cases z))]; exact h2⟩), upd_same, ?_, fun c => ?_⟩
        · have := putK_le kvs (Sum.inl (b : Int)) (VI (par hs b)); omega
        · rw [valV_put, hsn c, hk c]
          by_cases hc : b = c
          · subst hc
            rw [if_pos rfl]
            simp
          · rw [if_neg (fun z => hc (by injection z with z; omega)), decide_eq_false hc, Bool.or_false]
    · rintro σ H3 ⟨v2, v3, kvs, rfl, e3, hL3, pL3, hT3, hkl, hk⟩
      refine ⟨_, rfl, q t H3 e3 ⟨kvs, hT3, by omega, fun b => ?_⟩⟩
      rw [hk b, ← hlen, List.take_length]
      rfl
def sp_way_up (K : PySem.W.Frag) : Sp := fun vs H Q _ => ∃ (t : Addr) (hs : List Nat) (k : Nat → Bool) (p : Nat), vs = [.ref t, VI p, VI hs.length] ∧ TiesAt H t hs k ∧ TreeOk hs ∧ k 0 = false ∧ p ≤ hs.length ∧ ∀ l H', H l = none → Ex H H' → H' l = some (.lst (vns (way hs k p))) → Q (.ref l) H'
theorem ok_way_up (T : Txt K mg) : Callee P w K mg base 1 "way_up" ["ties", "place", "most"] (sp_way_up K) := by
  refine callee_mk T.f_way_up T.g_way_up (fun fd F => ?_) (fun _ _ _ _ _ _ us hl => match us, hl with | [_, _, _], _ => rfl)
  refine F.ok sc_way_up (fun vs H Q E h => ?_) (fun cdv A outer s H vs Q E hr h => ?_)
  · obtain ⟨t, hs, k, p, rfl, _⟩ := h; rfl
  · obtain ⟨t, hs, k, p, rfl, hT, Tr, k0, hp, q⟩ := h
    have hu := hu_of hr
    have h40 := Tr.n40
    refine ⟨_, (pss_cons (ps_set (i := 3) sc_way_up.nd rfl (Or.inl rfl) (pe_lst (pa_cons (pv 1) pa_nil)))
      (pss_cons (ps_while PassesOwn.never (pt_cmp (pc_din hu (pe_ix ix_list (pv 3) (pe_un un_neg pe_int) (fun _ _ => rfl)) (pv 0))) (pss_cons (ps_expr (pe_bm PySem.F.plainAttrs_list PySem.F.slot_list_append PySem.F.type_list_append mt_append (pv 3) (pa_cons (pe_dget hu (pv 0) (pe_ix ix_list (pv 3) (pe_un un_neg pe_int) (fun _ _ => rfl)) (fun _ _ => rfl)) pa_nil)))
      (pss_one (ps_if (pt_cmpR op_gt (pe_callB call_len_seq (by rfl) T.n_len PySem.boot_len (pa_cons (pv 3) pa_nil)) (pe_op op_add (pv 2) pe_int) (nomark _)) (pss_one (ps_ret pe_non)) pss_nil))))
      (pss_one (ps_ret (pv 3))))), ?_⟩
    refine ⟨_, rfl, (by show 1 ≤ sizeLine; decide), fun l hl => ?_⟩
    refine ⟨fun m σ H' => ∃ (x : Nat) (acc : List Nat), σ = [some (.ref t), some (VI p), some (VI hs.length), some (.ref l)] ∧ Ex H H' ∧ H' l = some (.lst (vns (acc ++ [x]))) ∧ up hs m x = 0 ∧ acc ++ wayF hs k m x = way hs k p ∧ acc.length + m ≤ hs.length,
      ⟨hs.length, p, [], rfl, Ex.new hl, upd_same, Tr.home p hp, rfl, by simp⟩, ?_⟩
    rintro m σ H1 ⟨x, acc, rfl, e1, hL, hu0, hw, hm⟩
    obtain ⟨kvs, hK, hkl, hk⟩ := hT.mono e1
    have hat : atI (vns (acc ++ [x])) (-1) = some (VI x) := by
      rw [vns_app]; exact atI_last (vns acc) (VI x)
    refine ⟨.ref l, rfl, 1, rfl, l, _, -1, _, rfl, rfl, .inl (.inl hL), hat, .ref t, rfl, t, _, rfl, DGet.k (k := Sum.inl (x : Int)) hK, _, rfl, ?_⟩
    rw [hk x]
    by_cases hx : k x = true
    · rw [if_pos hx]
      refine iteT ?_
      have hx0 : x ≠ 0 := fun z => by rw [z, k0] at hx; cases hx
      cases m with
      | zero => exact absurd hu0 hx0
      | succ m =>
        have hw' : wayF hs k (m + 1) x = x :: wayF hs k m (par hs x) := by
          show (x :: if k x = true then wayF hs k m (par hs x) else []) = _
          rw [if_pos hx]
        rw [hw'] at hw
        refine ⟨fun σ' H2 => ∃ (x' : Nat) (acc' : List Nat), σ' = [some (.ref t), some (VI p), some (VI hs.length), some (.ref l)] ∧ Ex H H2 ∧ H2 l = some (.lst (vns (acc' ++ [x']))) ∧ up hs m x' = 0 ∧ acc' ++ wayF hs k m x' = way hs k p ∧ acc'.length + m ≤ hs.length, fun σ' H2 hN => ⟨m, Nat.lt_succ_self m, hN⟩, ?_⟩
        refine ⟨.ref l, rfl, .inl ⟨rfl, _, .inl (.inl hL)⟩, .ref t, rfl, .ref l, rfl, 1, rfl, l, _, -1, _, rfl, rfl, .inl (.inl hL), hat, t, VI (par hs x), rfl, ?_, l, _, _, rfl, rfl, hL, sz_lt (by rw [List.length_map, List.length_append, List.length_singleton]; omega), ?_⟩
        · have := DGet.k (k := Sum.inl (x : Int)) hK
          rw [hk x, if_pos hx] at this
          exact this
        have hL2 : (upd H1 l (.lst (vns (acc ++ [x]) ++ [VI (par hs x)]))) l = some (.lst (vns (acc ++ [x] ++ [par hs x]))) := by
          rw [upd_same, vns_app (a := acc ++ [x])]; rfl
        have e2 : Ex H (upd H1 l (.lst (vns (acc ++ [x]) ++ [VI (par hs x)]))) := e1.mut hl
        generalize upd H1 l (.lst (vns (acc ++ [x]) ++ [VI (par hs x)])) = H2 at hL2 e2
        refine ⟨.ref l, rfl, l, _, rfl, .inl (.inl (.inl hL2)), _, rfl, _, _, rfl, rfl, _, _, rfl, rfl, _, rfl, ?_⟩
        rw [decide_eq_false (show ¬ ((hs.length : Int) + 1 < ((vns (acc ++ [x] ++ [par hs x])).length : Int)) by rw [List.length_map, List.length_append, List.length_append, List.length_singleton, List.length_singleton]; omega)]
        refine iteF ?_
        refine ⟨par hs x, acc ++ [x], rfl, e2, hL2, hu0, ?_, ?_⟩
        · rw [List.append_assoc]; exact hw
        · rw [List.length_append, List.length_singleton]; omega
    · rw [if_neg hx]
      refine iteF ?_
      have hx : k x = false := by simpa using hx
      rw [way_last hx] at hw
      refine ⟨_, rfl, q l H1 hl e1 (by rw [hL, hw])⟩
end
end Fv
end
section
/-! the pieces laid -/
namespace Fv
open PySem PySem.Spec PyProof.Rows L2 Evl
/-- the scope of the comprehension that the i-th statement stores -/
def asgSc (b : List Stmt) (i : Nat) : Scope := match b.getD i (.Pass ⟨0, 0, 0, 0⟩) with
  | .Assign _ (.ListComp _ _ sc _) _ => sc
  | _ => { kind := .function, names := [], isGenerator := false, isCoroutine := false }
/-! ### ways -/
theorem wayF_eq (hs : List Nat) (k : Nat → Bool) : ∀ m p, ∃ acc, wayF hs k m p = acc ++ [topF hs k m p]
  | 0, p => ⟨[], rfl⟩
  | m + 1, p => by
    unfold wayF topF
    by_cases h : k p = true
    · obtain ⟨acc, e⟩ := wayF_eq hs k m (par hs p)
      rw [if_pos h, if_pos h, e]
      exact ⟨p :: acc, rfl⟩
    · rw [if_neg h, if_neg h]
      exact ⟨[], rfl⟩
theorem topF_spec {hs : List Nat} {k : Nat → Bool} (T : TreeOk hs) (k0 : k 0 = false) : ∀ m p, p ≤ hs.length → up hs m p = 0 → k (topF hs k m p) = false ∧ topF hs k m p ≤ hs.length
  | 0, p, hp, h => by
    have h : p = 0 := h
    subst h
    exact ⟨k0, hp⟩
  | m + 1, p, hp, h => by
    unfold topF
    split
    · exact topF_spec T k0 m (par hs p) (T.le p) h
    · rename_i hk
      exact ⟨by simpa using hk, hp⟩
theorem topp_self {hs : List Nat} {k : Nat → Bool} {t : Nat} (h : k t = false) : topp hs k t = t := by
  unfold topp
  cases hs.length with
  | zero => rfl
  | succ m => unfold topF; rw [if_neg (by rw [h]; decide)]
theorem topp_spec {hs : List Nat} {k : Nat → Bool} (T : TreeOk hs) (k0 : k 0 = false) {p : Nat} (hp : p ≤ hs.length) : k (topp hs k p) = false ∧ topp hs k p ≤ hs.length := topF_spec T k0 _ p hp (T.home p hp)
theorem wayF_le {hs : List Nat} {k : Nat → Bool} (T : TreeOk hs) : ∀ m p, p ≤ hs.length → ∀ x ∈ wayF hs k m p, x ≤ hs.length
  | 0, p, hp, x, hx => by have hx : x ∈ [p] := hx; rw [List.mem_singleton] at hx; omega
  | m + 1, p, hp, x, hx => by
    unfold wayF at hx
    rcases List.mem_cons.mp hx with rfl | hx
    · exact hp
    · split at hx
      · exact wayF_le T m _ (T.le p) x hx
      · cases hx
theorem mem_tops {n t : Nat} {k : Nat → Bool} : t ∈ tops n k ↔ t ≤ n ∧ k t = false := by
  unfold tops
  rw [List.mem_filter, List.mem_range]
  constructor
  · rintro ⟨h1, h2⟩; exact ⟨by omega, by simpa using h2⟩
  · rintro ⟨h1, h2⟩; exact ⟨by omega, by rw [h2]; rfl⟩
theorem tops_sorted (n : Nat) (k : Nat → Bool) : (tops n k).Pairwise (· < ·) := List.Pairwise.filter _ List.pairwise_lt_range
theorem kn0 {hs : List Nat} (T : TreeOk hs) (u d : Nat) (lost : List Nat) : kn hs u d lost 0 = false := by
  cases h : kn hs u d lost 0 with
  | false => rfl
  | true => exact absurd rfl (kn_ok T h).1
/-! ### keys of merged pairs -/
theorem putK_keys (kvs : List (Key × V)) (k : Key) (v : V) : (putK kvs k v).map (·.1) = if (kvs.any fun kv => decide (kv.1 = k)) = true then kvs.map (·.1) else kvs.map (·.1) ++ [k] := by
  unfold putK
  split
  · rw [List.map_map]
    refine List.map_congr_left fun a ha => ?_
    show (if a.1 = k then (a.1, v) else a).1 = a.1
    split <;> rfl
  · rw [List.map_append]; rfl
theorem merge_keys : ∀ (zs acc : List (Key × V)), (acc.map (·.1)).Nodup → ((mergeK acc zs).map (·.1)).Nodup ∧ ∀ k, k ∈ (mergeK acc zs).map (·.1) ↔ k ∈ acc.map (·.1) ∨ k ∈ zs.map (·.1)
  | [], acc, h => ⟨h, fun k => ⟨fun z => .inl z, fun z => z.elim id fun z => by cases z⟩⟩
  | z :: zs, acc, h => by
    have e : mergeK acc (z :: zs) = mergeK (putK acc z.1 z.2) zs := rfl
    have hk := putK_keys acc z.1 z.2
    have hany : (acc.any fun kv => decide (kv.1 = z.1)) = true ↔ z.1 ∈ acc.map (·.1) := by
      rw [List.any_eq_true, List.mem_map]
      exact ⟨fun ⟨p, h1, h2⟩ => ⟨p, h1, of_decide_eq_true h2⟩, fun ⟨p, h1, h2⟩ => ⟨p, h1, decide_eq_true h2⟩⟩
    have h2 : ((putK acc z.1 z.2).map (·.1)).Nodup ∧ ∀ k, k ∈ (putK acc z.1 z.2).map (·.1) ↔ k ∈ acc.map (·.1) ∨ k = z.1 := by
      rw [hk]
      by_cases hc : (acc.any fun kv => decide (kv.1 = z.1)) = true
      · rw [if_pos hc]
        exact ⟨h, fun k => ⟨fun m => .inl m, fun m => m.elim id fun e => by rw [e]; exact hany.mp hc⟩⟩
      · rw [if_neg hc]
        exact ⟨nd_snoc h fun m => hc (hany.mpr m), fun k => by rw [List.mem_append, List.mem_singleton]⟩
    obtain ⟨i1, i2⟩ := merge_keys zs _ h2.1
    rw [e]
    refine ⟨i1, fun k => ?_⟩
    rw [i2 k, h2.2 k, List.map_cons, List.mem_cons]
    exact ⟨fun z => z.elim (fun z => z.elim .inl fun z => .inr (.inl z)) fun z => .inr (.inr z), fun z => z.elim (fun z => .inl (.inl z)) fun z => z.elim (fun z => .inl (.inr z)) .inr⟩
theorem zip_keys {α : Type} {f : α → Key} {n : List α} {ys : List V} (h : n.length = ys.length) : (((n.map f).zip ys).map (·.1)) = n.map f := by
  induction n generalizing ys with
  | nil => simp
  | cons a n ih =>
    cases ys with
    | nil => cases h
    | cons y ys => rw [List.map_cons, List.zip_cons_cons, List.map_cons, ih (by simpa using h)]
theorem inl_back : ∀ {l : List Key}, (∀ k ∈ l, ∃ i : Int, k = Sum.inl i) → ∃ ks : List Int, l = ks.map Sum.inl
  | [], _ => ⟨[], rfl⟩
  | a :: r, h => by
    obtain ⟨i, rfl⟩ := h a (List.mem_cons_self ..)
    obtain ⟨ks, e⟩ := inl_back (l := r) fun k hk => h k (List.mem_cons_of_mem _ hk)
    exact ⟨i :: ks, by rw [e]; rfl⟩
/-! ### the object -/
def fsLaid (n : Nat) (t pc tl ll ev : Addr) : List (Str × V) := putF "every" (.ref ev) (putF "lots" (.ref ll) (putF "tops" (.ref tl) (putF "piece" (.ref pc) (putF "ties" (.ref t) (putF "blocks" (VI n) [])))))
section
variable (n : Nat) (t pc tl ll ev : Addr)
theorem laid_blocks : (fsLaid n t pc tl ll ev).lookup ("blocks" : Str) = some (VI n) := by
  unfold fsLaid
  rw [lookup_putF, if_neg (by decide +kernel), lookup_putF, if_neg (by decide +kernel), lookup_putF, if_neg (by decide +kernel), lookup_putF, if_neg (by decide +kernel), lookup_putF, if_neg (by decide +kernel), lookup_putF, if_pos rfl]
theorem laid_ties : (fsLaid n t pc tl ll ev).lookup ("ties" : Str) = some (.ref t) := by
  unfold fsLaid
  rw [lookup_putF, if_neg (by decide +kernel), lookup_putF, if_neg (by decide +kernel), lookup_putF, if_neg (by decide +kernel), lookup_putF, if_neg (by decide +kernel), lookup_putF, if_pos rfl]
theorem laid_piece : (fsLaid n t pc tl ll ev).lookup ("piece" : Str) = some (.ref pc) := by
  unfold fsLaid
  rw [lookup_putF, if_neg (by decide +kernel), lookup_putF, if_neg (by decide +kernel), lookup_putF, if_neg (by decide +kernel), lookup_putF, if_pos rfl]
theorem laid_tops : (fsLaid n t pc tl ll ev).lookup ("tops" : Str) = some (.ref tl) := by
  unfold fsLaid
  rw [lookup_putF, if_neg (by decide +kernel), lookup_putF, if_neg (by decide +kernel), lookup_putF, if_pos rfl]
theorem laid_lots : (fsLaid n t pc tl ll ev).lookup ("lots" : Str) = some (.ref ll) := by
  unfold fsLaid
  rw [lookup_putF, if_neg (by decide +kernel), lookup_putF, if_pos rfl]
theorem laid_every : (fsLaid n t pc tl ll ev).lookup ("every" : Str) = some (.ref ev) := by
  unfold fsLaid
  rw [lookup_putF, if_pos rfl]
theorem laid_no {m : Str} (h1 : ¬ m = "every") (h2 : ¬ m = "lots") (h3 : ¬ m = "tops") (h4 : ¬ m = "piece") (h5 : ¬ m = "ties") (h6 : ¬ m = "blocks") : (fsLaid n t pc tl ll ev).lookup m = none := by
  unfold fsLaid
  rw [lookup_putF, if_neg h1, lookup_putF, if_neg h2, lookup_putF, if_neg h3, lookup_putF, if_neg h4, lookup_putF, if_neg h5, lookup_putF, if_neg h6]
  rfl
end
theorem putF_lt {f : Str} {v : V} {fs : List (Str × V)} {m : Nat} (h : fs.length ≤ m) : (putF f v fs).length ≤ m + 1 := Nat.le_trans (putF_le f v fs) (Nat.succ_le_succ h)
def PieceAt (H : Hp) (pc : Addr) (hs : List Nat) (k : Nat → Bool) : Prop := ∃ kvs, H pc = some (.dK kvs) ∧ ∀ p, p ≤ hs.length → valV kvs (Sum.inl (p : Int)) = some (VI (topp hs k p))
def LotsAt (H : Hp) (hs : List Nat) (k : Nat → Bool) (d : Nat) (lost : List Nat) (lots : List V) : Prop := Paired (fun (t : Nat) (y : V) => ∃ a, y = .ref a ∧ H a = some (.tup (vns (lot hs k d lost t)))) (tops hs.length k) lots
def LaidAt (K : PySem.W.Frag) (H : Hp) (v : V) (hs : List Nat) (u d : Nat) (lost : List Nat) : Prop := ∃ x dx t pc tl ll ev lots, v = .ref x ∧ H x = some (.ins (cLaid K) dx (fsLaid hs.length t pc tl ll ev)) ∧ TiesAt H t hs (kn hs u d lost) ∧ PieceAt H pc hs (kn hs u d lost) ∧ H tl = some (.lst (vns (tops hs.length (kn hs u d lost)))) ∧
  H ll = some (.lst lots) ∧ LotsAt H hs (kn hs u d lost) d lost lots ∧ H ev = some (.tup (vns (every hs (kn hs u d lost) d lost)))
theorem LotsAt.mono {H H' : Hp} {hs : List Nat} {k : Nat → Bool} {d : Nat} {lost : List Nat} {lots : List V} (e : Ex H H') (h : LotsAt H hs k d lost lots) : LotsAt H' hs k d lost lots := paired_imp h fun _ _ _ ⟨a, h1, h2⟩ => ⟨a, h1, e _ _ h2⟩
theorem PieceAt.mono {H H' : Hp} {pc : Addr} {hs : List Nat} {k : Nat → Bool} (e : Ex H H') (h : PieceAt H pc hs k) : PieceAt H' pc hs k := let ⟨kvs, h1, h2⟩ := h; ⟨kvs, e _ _ h1, h2⟩
theorem LaidAt.mono {K : PySem.W.Frag} {H H' : Hp} {v : V} {hs : List Nat} {u d : Nat} {lost : List Nat} (e : Ex H H') (h : LaidAt K H v hs u d lost) : LaidAt K H' v hs u d lost := by
  obtain ⟨x, dx, t, pc, tl, ll, ev, lots, h1, h2, h3, h4, h5, h6, h7, h8⟩ := h
  exact ⟨x, dx, t, pc, tl, ll, ev, lots, h1, e _ _ h2, h3.mono e, h4.mono e, e _ _ h5, e _ _ h6, h7.mono e, e _ _ h8⟩
def WaysAt (H : Hp) (hs : List Nat) (k : Nat → Bool) (ws : List V) : Prop := Paired (fun (p : Nat) (y : V) => ∃ l, y = .ref l ∧ H l = some (.lst (vns (way hs k p)))) (List.range (hs.length + 1)) ws
theorem WaysAt.mono {H H' : Hp} {hs : List Nat} {k : Nat → Bool} {ws : List V} (e : Ex H H') (h : WaysAt H hs k ws) : WaysAt H' hs k ws := paired_imp h fun _ _ _ ⟨a, h1, h2⟩ => ⟨a, h1, e _ _ h2⟩
theorem WaysAt.at {H : Hp} {hs : List Nat} {k : Nat → Bool} {ws : List V} (h : WaysAt H hs k ws) {i : Nat} {y : V} (hy : ws[i]? = some y) : i ≤ hs.length ∧ ∃ l, y = .ref l ∧ H l = some (.lst (vns (way hs k i))) := by
  obtain ⟨j, hj, l, h1, h2⟩ := paired_at h hy
  obtain ⟨h3, h4⟩ := List.getElem?_eq_some_iff.mp hj
  rw [List.getElem_range] at h4
  rw [List.length_range] at h3
  subst h4
  exact ⟨by omega, l, h1, h2⟩
theorem ex_upd_del {H : Hp} {p : Addr} {o : HO} : Ex (del H p) (upd H p o) := fun b u h => by
  by_cases hb : b = p
  · subst hb; rw [del_same] at h; cases h
  · rw [upd_ne hb]; rw [del_ne hb] at h; exact h
section
variable {P : Program} {w : World} {K : PySem.W.Frag} {mg : Str → Option Value} {base : Heap}
def sp_Laid_init (K : PySem.W.Frag) : Sp := fun vs H Q _ => ∃ (B : Hp) (p dx t wl : Addr) (v : V) (ws : List V) (hs : List Nat) (u d : Nat) (lost : List Nat), vs = [.ref p, v, .ref t, .ref wl] ∧ Ex B H ∧ B p = none ∧ H p = some (.ins (cLaid K) dx []) ∧ PicAt K B v hs u d lost ∧ TreeOk hs ∧
  TiesAt B t hs (kn hs u d lost) ∧ B wl = some (.lst ws) ∧ WaysAt B hs (kn hs u d lost) ws ∧ ∀ H', Ex B H' → LaidAt K H' (.ref p) hs u d lost → Q .non H'
theorem ok_Laid_init (T : Txt K mg) : Maker P w K mg base 1 "Laid" (cLaid K) ["self", "picture", "ties", "ways"] (sp_Laid_init K) := by
  refine maker_mk T.f_Laid_init T.gLaid T.mkLaid (fun fd F => ?_) (fun _ _ _ _ _ _ us hl => match us, hl with | [_, _, _, _], _ => rfl)
  refine F.ok sc_Laid_init (fun vs H Q E h => ?_) (fun cdv A outer s H vs Q E hr h => ?_)
  · obtain ⟨B, p, dx, t, wl, v, ws, hs, u, d, lost, rfl, _⟩ := h; rfl
  · obtain ⟨B, p, dx, t, wl, v, ws, hs, u, d, lost, rfl, e0, hB, hp, hPic, Tr, hTies, hWl, hWs, q⟩ := h
    have hu := hu_of hr
    have h40 := Tr.n40
    have k0 := kn0 Tr u d lost
    generalize hk : kn hs u d lost = k at hTies hWs k0
    obtain ⟨px, pdx, va, pt, kvs, rfl, hX, hV, hT, hK⟩ := hPic
    refine ⟨_, (pss_cons (ps_fld (pv 0) (pe_fld (pv 1) rfl) rfl)
      (pss_cons (ps_fld (pv 0) (pv 2) rfl)
      (pss_cons (ps_fld (pv 0) (pe_dc (own := [("place", 6), ("way", 7)]) (g := (gTup K 2 (gCons (gName 6) (gCons (gName 7) gNil)))) (tt := tYes) (by rfl) sc_Laid_init.nd (pi_enum (by rfl) T.n_enumerate (pa_cons (pv 3) pa_nil)) (blkOk_by (own := [("place", 6), ("way", 7)]) (N := N_Laid_init) (sc := defScope s_Laid_init) (by decide +kernel)) (fun _ _ _ _ _ => (pg_tup (by rfl) (pgs_cons (pg_name (i := 6) sc_Laid_init.nd rfl (Or.inl rfl)) (pgs_cons (pg_name (i := 7) sc_Laid_init.nd rfl (Or.inl rfl)) pgs_nil)))) (fun _ _ _ _ _ => pts_nil) (fun _ _ _ _ _ => (pv 6)) (fun _ _ _ _ _ => (pe_ix (ix_list_K K) (pv 7) (pe_un un_neg pe_int) (fun _ _ => rfl)))) rfl)
      (pss_cons (ps_fld (pv 0) (pe_callB (call_sortedDI rfl) (by rfl) T.n_sorted (by decide +kernel) (pa_cons (pe_lock (pe_dc (own := [("top", 8)]) (g := (gName 8)) (tt := tYes) (by rfl) sc_Laid_init.nd (pi_values (pe_fld (pv 0) rfl)) (blkOk_by (own := [("top", 8)]) (N := N_Laid_init) (sc := defScope s_Laid_init) (by decide +kernel)) (fun _ _ _ _ _ => (pg_name (i := 8) sc_Laid_init.nd rfl (Or.inl rfl))) (fun _ _ _ _ _ => pts_nil) (fun _ _ _ _ _ => (pv 8)) (fun _ _ _ _ _ => pe_bl))) pa_nil)) rfl)
      (pss_cons (ps_set (i := 4) sc_Laid_init.nd rfl (Or.inr rfl) (pe_ix ix_tup (pe_fld (pv 1) rfl) pe_int (fun _ _ => rfl)))
      (pss_cons (ps_set (i := 5) sc_Laid_init.nd rfl (Or.inr rfl) (pe_lc (own := [("place", 6), ("way", 7)]) (g := (gTup K 2 (gCons (gName 6) (gCons (gName 7) gNil))))  (by rfl) sc_Laid_init.nd (pi_enum (by rfl) T.n_enumerate (pa_cons (pv 3) pa_nil)) (blkOk_by (own := [("place", 6), ("way", 7)]) (N := N_Laid_init) (sc := defScope s_Laid_init) (by decide +kernel)) (fun _ _ _ _ _ => (pg_tup (by rfl) (pgs_cons (pg_name (i := 6) sc_Laid_init.nd rfl (Or.inl rfl)) (pgs_cons (pg_name (i := 7) sc_Laid_init.nd rfl (Or.inl rfl)) pgs_nil)))) (fun _ _ _ _ _ => (pts_one (pt_not (pt_val (pe_callB (cr_any_K K rfl) (by rfl) T.n_any (by decide +kernel) (pa_cons (pe_lc (own := [("here", 9)]) (g := (gName 9)) (tt := tYes) (by rfl) sc_Laid_init.nd (pi_list_K K (pe_slice (sl_list_K K) (pv 7) po_none (po_some (pv 4)))) (blkOk_by (own := [("here", 9)]) (N := N_Laid_init) (sc := relS (asgSc (defBody s_Laid_init) 5) (defScope s_Laid_init)) (by decide +kernel)) (fun _ _ _ _ _ => (pg_name (i := 9) sc_Laid_init.nd rfl (Or.inl rfl))) (fun _ _ _ _ _ => pts_nil) (fun _ _ _ _ _ => (pe_cmp (pc_din hu (pv 9) (pe_fld_K K (pv 1) rfl))))) pa_nil)))))) (fun _ _ _ _ _ => (pv 6))))
      (pss_cons (ps_fld (pv 0) (pe_lc (own := [("top", 8)]) (g := (gName 8)) (tt := tYes) (by rfl) sc_Laid_init.nd (pi_list (pe_fld (pv 0) rfl)) (blkOk_by (own := [("top", 8)]) (N := N_Laid_init) (sc := defScope s_Laid_init) (by decide +kernel)) (fun _ _ _ _ _ => (pg_name (i := 8) sc_Laid_init.nd rfl (Or.inr rfl))) (fun _ _ _ _ _ => pts_nil) (fun _ _ _ _ _ => (pe_callTy (call_tuple_of_K K) (by rfl) T.n_tuple (by decide +kernel) (pa_cons (pe_lc (own := [("place", 6)]) (g := (gName 6))  (by rfl) sc_Laid_init.nd (pi_list_K K (pv 5)) (blkOk_by (own := [("place", 6)]) (N := N_Laid_init) (sc := relS (asgSc (defBody s_Laid_init) 6) (defScope s_Laid_init)) (by decide +kernel)) (fun _ _ _ _ _ => (pg_name (i := 6) sc_Laid_init.nd rfl (Or.inl rfl))) (fun _ _ _ _ _ => (pts_one (pt_cmpR op_eq (pe_dget hu (pe_fld_K K (pv 0) rfl) (pv 6) (fun _ _ => rfl)) (pv 8) (nomark _)))) (fun _ _ _ _ _ => (pv 6))) pa_nil)))) rfl)
      (pss_one (ps_fld (pv 0) (pe_callTy call_tuple_of (by rfl) T.n_tuple (by decide +kernel) (pa_cons (pv 5) pa_nil)) rfl))))))))), ?_⟩
    have hwl : ws.length = hs.length + 1 := by rw [← paired_len hWs, List.length_range]
    refine ⟨_, rfl, px, cPic K, pdx, _, _, rfl, e0 _ _ hX, T.clPicture, T.naPicture_blocks, pic_blocks _ _ _, _, rfl, p, cLaid K, dx, [], rfl, hp, T.clLaid, T.naLaid_blocks, (by decide), ?_⟩
    refine ⟨_, rfl, _, rfl, p, cLaid K, dx, _, rfl, upd_same, T.clLaid, T.naLaid_ties, Nat.lt_of_le_of_lt (putF_lt (m := 0) (Nat.le_refl _)) (by decide), ?_⟩
    rw [upd_upd]
    have e2 : Ex B (upd H p (.ins (cLaid K) dx (putF "ties" (.ref t) (putF "blocks" (VI hs.length) [])))) := e0.mut hB
    have hp2 : (upd H p (.ins (cLaid K) dx (putF "ties" (.ref t) (putF "blocks" (VI hs.length) [])))) p = some (.ins (cLaid K) dx (putF "ties" (.ref t) (putF "blocks" (VI hs.length) []))) := upd_same
    generalize upd H p (.ins (cLaid K) dx (putF "ties" (.ref t) (putF "blocks" (VI hs.length) []))) = H2 at e2 hp2
    clear hp e0
    -- self.piece
    refine ⟨.ref wl, rfl, wl, ws, rfl, .inl (.inl (e2 _ _ hWl)), ?_⟩
    refine dcJ (J := Ite K wl) (n := hs.length + 1) (kf := fun i => (i : Int)) (E := fun i y _ => y = VI (topp hs k i)) (fun _ => mono_eq) (by omega)
      (fun i H' e hi => ⟨ws, ws[i], .inl (.inl (e _ _ (e2 _ _ hWl))), by simp [hwl, hi]⟩) (fun H' e => ⟨ws, .inl (.inl (e _ _ (e2 _ _ hWl))), by omega⟩) (fun D i x H' H'' hD e hys hi hyl Qy qy => ?_) (fun pc kv3 ys H3 hpc e3 hkv3 hkv ep hlen => ?_)
    · obtain ⟨tt, x1, rfl, nT, rfl, f1⟩ := hyl
      obtain ⟨_, l, rfl, hl⟩ := (hWs.mono (e2.trans e)).at (f1 _ (.inl (.inl (e _ _ (e2 _ _ hWl)))))
      refine ⟨tt, _, rfl, .inl (.inl upd_same), rfl, _, _, rfl, _, _, rfl, rfl, rfl, _, rfl, ?_⟩
      obtain ⟨acc, ew⟩ := wayF_eq hs k hs.length i
      have hat : atI (vns (way hs k i)) (-1) = some (VI (topp hs k i)) := by
        show atI (vns (wayF hs k hs.length i)) (-1) = some (VI (topF hs k hs.length i))
        rw [ew, vns_app]; exact atI_last (vns acc) _
      have e5 := Ex.new (o := .tup [.int (i : Nat), .ref l]) nT
      exact ⟨.ref l, rfl, 1, rfl, l, _, -1, _, rfl, rfl, .inl (.inl (e5 _ _ hl)), hat, qy _ _ e5 rfl⟩
    have hpcv : ∀ q, q ≤ hs.length → valV kv3 (Sum.inl (q : Int)) = some (VI (topp hs k q)) := fun q hq => by
      have hz := zip_told (F := fun p y => y = VI (topp hs k p)) ep
      have ekv : kv3 = ((List.range (hs.length + 1)).map fun p : Nat => (Sum.inl (p : Int) : Key)).zip ys := by
        rw [hkv]
        refine merge_nil ?_
        rw [zip_fst (paired_len ep)]
        exact inl_nodup List.nodup_range
      obtain ⟨v, h1, h2⟩ := told_val (F := fun p y => y = VI (topp hs k p)) hz (List.mem_range.mpr (by omega) : q ∈ List.range (hs.length + 1))
      rw [ekv, h1, h2]
    have kv3_at : ∀ i z, kv3[i]? = some z → z.2 = VI (topp hs k i) ∧ i ≤ hs.length := fun i z hz => by
      have ekv : kv3 = ((List.range (hs.length + 1)).map fun p : Nat => (Sum.inl (p : Int) : Key)).zip ys := by
        rw [hkv]
        refine merge_nil ?_
        rw [zip_fst (paired_len ep)]
        exact inl_nodup List.nodup_range
      have hz2 := zip_told (F := fun p y => y = VI (topp hs k p)) ep
      rw [← ekv] at hz2
      obtain ⟨j, hj, _, h4⟩ := paired_at hz2 hz
      obtain ⟨h5, h6⟩ := List.getElem?_eq_some_iff.mp hj
      rw [List.getElem_range] at h6
      rw [List.length_range] at h5
      subst h6
      exact ⟨h4, by omega⟩
    have hkl3 : kv3.length = hs.length + 1 := by
      have ekv : kv3 = ((List.range (hs.length + 1)).map fun p : Nat => (Sum.inl (p : Int) : Key)).zip ys := by
        rw [hkv]
        refine merge_nil ?_
        rw [zip_fst (paired_len ep)]
        exact inl_nodup List.nodup_range
      have hy := paired_len ep
      rw [List.length_range] at hy
      rw [ekv, List.length_zip, List.length_map, List.length_range]
      omega
    clear hkv ep
    have npc : pc ≠ p := (ne_of_none hp2 hpc).symm
    refine ⟨_, rfl, p, cLaid K, dx, _, rfl, e3 _ _ hp2, T.clLaid, T.naLaid_piece, Nat.lt_of_le_of_lt (putF_lt (putF_lt (m := 0) (Nat.le_refl _))) (by decide), ?_⟩
    have eB3 : Ex B (del H3 p) := ex_back (e2.trans e3) hB
    have hB3 : (del H3 p) p = none := del_same
    have e34 : Ex (del H3 p) (upd H3 p (.ins (cLaid K) dx (putF "piece" (.ref pc) (putF "ties" (.ref t) (putF "blocks" (VI hs.length) []))))) := ex_upd_del
    have hp4 : (upd H3 p (.ins (cLaid K) dx (putF "piece" (.ref pc) (putF "ties" (.ref t) (putF "blocks" (VI hs.length) []))))) p = some (.ins (cLaid K) dx (putF "piece" (.ref pc) (putF "ties" (.ref t) (putF "blocks" (VI hs.length) [])))) := upd_same
    have hpc3 : (del H3 p) pc = some (.dK kv3) := by rw [del_ne npc]; exact hkv3
    generalize upd H3 p (.ins (cLaid K) dx (putF "piece" (.ref pc) (putF "ties" (.ref t) (putF "blocks" (VI hs.length) [])))) = H4 at e34 hp4
    generalize del H3 p = B3 at eB3 hB3 e34 hpc3
    clear hkv3 hpc e3 hp2 e2 H2 hB
    -- self.tops
    have hpc4 := e34 _ _ hpc3
    refine ⟨pc, _, hpc4, trivial, fun od => ?_⟩
    have npp : p ≠ pc := npc.symm
    refine ⟨_, rfl, p, cLaid K, dx, _, _, rfl, by rw [upd_ne npp]; exact hp4, T.clLaid, T.naLaid_piece, by rw [lookup_putF, if_pos rfl], pc, od, kv3, rfl, upd_same, ?_⟩
    refine dcJ (J := Itd pc od kv3) (n := hs.length + 1) (kf := fun i => (topp hs k i : Int)) (E := fun i y _ => y = .bl true) (fun _ => mono_eq) (by omega)
      (fun i H' e hi => ⟨e _ _ upd_same, by omega⟩) (fun H' e => ⟨e _ _ upd_same, by omega⟩) (fun D i x H' H'' hD e hys hi hyl Qy qy => ?_) (fun D kv5 ys H5 hD e5 hkv5 hm5 ep5 hlen5 => ?_)
    · obtain ⟨rfl, kk, hkk⟩ := hyl
      obtain ⟨rfl, _⟩ := kv3_at _ _ hkk
      refine ⟨rfl, _, rfl, ?_⟩
      exact qy _ _ (Ex.refl _) rfl
    refine ⟨e5 _ _ upd_same, ?_⟩
    have nDp : D ≠ pc := fun z => by rw [z, upd_same] at hD; cases hD
    have e46 : Ex H4 (upd H5 pc (.dK kv3)) := lock_ex hpc4 e5
    have hD6 : (upd H5 pc (.dK kv3)) D = some (.dK kv5) := by rw [upd_ne nDp]; exact hkv5
    generalize upd H5 pc (.dK kv3) = H6 at e46 hD6
    clear hkv5 e5 hD H5
    have hkeys := merge_keys (((List.range (hs.length + 1)).map fun i => (Sum.inl (topp hs k i : Int) : Key)).zip ys) [] List.nodup_nil
    rw [← hm5] at hkeys
    have hzk := zip_keys (f := fun i => (Sum.inl (topp hs k i : Int) : Key)) (paired_len ep5)
    obtain ⟨ks, hks⟩ := inl_back (l := kv5.map (·.1)) fun kk hkk => by
      rcases (hkeys.2 kk).mp hkk with z | z
      · cases z
      · rw [hzk] at z
        obtain ⟨i, _, rfl⟩ := List.mem_map.mp z
        exact ⟨_, rfl⟩
    have hperm5 : ks.Perm ((tops hs.length k).map fun p : Nat => (p : Int)) := by
      refine (List.perm_ext_iff_of_nodup ?_ ?_).mpr fun a => ?_
      · have := hkeys.1
        rw [hks] at this
        exact nodup_of_map _ this
      · exact map_nodup (fun a b e => by omega) (nodup_lt (tops_sorted _ _))
      · have h1 : a ∈ ks ↔ (Sum.inl a : Key) ∈ kv5.map (·.1) := by
          rw [hks, List.mem_map]
          exact ⟨fun z => ⟨a, z, rfl⟩, fun ⟨b, z, e⟩ => by injection e with e; rw [← e]; exact z⟩
        rw [h1, hkeys.2, hzk]
        constructor
        · rintro (z | z)
          · exact absurd z (by simp)
          · obtain ⟨i, hi, e⟩ := List.mem_map.mp z
            injection e with e
            have hi := List.mem_range.mp hi
            have := topp_spec Tr k0 (show i ≤ hs.length by omega)
            exact List.mem_map.mpr ⟨topp hs k i, mem_tops.mpr ⟨this.2, this.1⟩, e⟩
        · intro z
          obtain ⟨tq, ht, e⟩ := List.mem_map.mp z
          obtain ⟨h2, h3⟩ := mem_tops.mp ht
          exact .inr (List.mem_map.mpr ⟨tq, List.mem_range.mpr (by omega), by rw [topp_self h3, ← e]⟩)
    have hkl5 : ks.length < 64 := by
      have h1 : ks.length = kv5.length := by
        have := congrArg List.length hks
        rw [List.length_map, List.length_map] at this
        exact this.symm
      omega
    refine ⟨D, kv5, ks, rfl, .inl hD6, hks, hkl5, fun ys' tl hperm hsrt htl => ?_⟩
    obtain rfl := sort_nats (tops_sorted _ _) (hperm.trans hperm5) hsrt
    rw [vns_cast]
    have e67 : Ex H6 (upd H6 tl (.lst (vns (tops hs.length k)))) := Ex.new htl
    have htl7 : (upd H6 tl (.lst (vns (tops hs.length k)))) tl = some (.lst (vns (tops hs.length k))) := upd_same
    have ntl : tl ≠ p := (ne_of_none (e46 _ _ hp4) htl).symm
    generalize upd H6 tl (.lst (vns (tops hs.length k))) = H7 at e67 htl7
    have e47 := e46.trans e67
    refine ⟨_, rfl, p, cLaid K, dx, _, rfl, e47 _ _ hp4, T.clLaid, T.naLaid_tops, Nat.lt_of_le_of_lt (putF_lt (putF_lt (putF_lt (m := 0) (Nat.le_refl _)))) (by decide), ?_⟩
    have eB7 : Ex B3 (del H7 p) := ex_back (e34.trans e47) hB3
    have hB7 : (del H7 p) p = none := del_same
    have hp8 : (upd H7 p (.ins (cLaid K) dx (putF "tops" (.ref tl) (putF "piece" (.ref pc) (putF "ties" (.ref t) (putF "blocks" (VI hs.length) [])))))) p = some (.ins (cLaid K) dx (putF "tops" (.ref tl) (putF "piece" (.ref pc) (putF "ties" (.ref t) (putF "blocks" (VI hs.length) []))))) := upd_same
    have e78 : Ex (del H7 p) (upd H7 p (.ins (cLaid K) dx (putF "tops" (.ref tl) (putF "piece" (.ref pc) (putF "ties" (.ref t) (putF "blocks" (VI hs.length) [])))))) := ex_upd_del
    have htlB : (del H7 p) tl = some (.lst (vns (tops hs.length k))) := by rw [del_ne ntl]; exact htl7
    generalize upd H7 p (.ins (cLaid K) dx (putF "tops" (.ref tl) (putF "piece" (.ref pc) (putF "ties" (.ref t) (putF "blocks" (VI hs.length) []))))) = H8 at hp8 e78
    have hpcB := eB7 _ _ hpc3
    have eBB := eB3.trans eB7
    generalize del H7 p = B7 at eB7 hB7 e78 htlB hpcB eBB
    clear htl7 e67 htl e46 e47 hD6 hpc4 hperm hsrt hkeys hzk hks hperm5 hkl5 hm5 ep5 hlen5 hpc3 e34 hB3 hp4 H4 H6 H7 eB3 eB7
    have hX8 := e78 _ _ (eBB _ _ hX)
    have hV8 := ex_t (eBB.trans e78) hV
    have hT8 := e78 _ _ (eBB _ _ hT)
    have hK8 := (hK.mono eBB).mono e78
    have hWl8 := e78 _ _ (eBB _ _ hWl)
    have hWs8 := (hWs.mono eBB).mono e78
    refine ⟨_, rfl, px, cPic K, pdx, _, _, rfl, hX8, T.clPicture, T.naPicture_view, pic_view _ _ _, va, _, _, _, rfl, rfl, hV8, atI_nat (j := 1) rfl, ?_⟩
    -- places
    refine ⟨.ref wl, rfl, wl, ws, rfl, .inl (.inl hWl8), ?_⟩
    refine lcJ (J := Ite K wl) (n := hs.length + 1) (f := fun i => ((way hs k i).take d).all fun x => lost.contains x) (E := fun i y _ => y = VI i) (fun _ => mono_eq) (by omega)
      (fun i H' e hi => ⟨ws, ws[i], .inl (.inl (e _ _ hWl8)), by simp [hwl, hi]⟩) (fun H' e => ⟨ws, .inl (.inl (e _ _ hWl8)), by omega⟩) (fun D i x H' H'' hD e hys hi hyl Qy Qn qy qn => ?_) (fun pl ys H9 hpl e89 hy9 hp9 => ?_)
    · obtain ⟨tt, x1, rfl, nT, rfl, f1⟩ := hyl
      obtain ⟨_, l, rfl, hl⟩ := (hWs8.mono e).at (f1 _ (.inl (.inl (e _ _ hWl8))))
      have e5 := Ex.new (o := .tup [.int (i : Nat), .ref l]) nT
      refine ⟨tt, _, rfl, .inl (.inl upd_same), rfl, _, _, rfl, _, _, rfl, rfl, rfl, ?_⟩
      refine ⟨.ref l, rfl, VI d, rfl, _, rfl, l, _, rfl, .inl (.inl (e5 _ _ hl)), fun sl hsl => ?_⟩
      rw [cut_take]
      have e6 : Ex H' (upd (upd H' tt (.tup [.int (i : Nat), .ref l])) sl (.lst ((vns (way hs k i)).take d))) := e5.trans (Ex.new hsl)
      have hsl6 : (upd (upd H' tt (.tup [.int (i : Nat), .ref l])) sl (.lst ((vns (way hs k i)).take d))) sl = some (.lst (vns ((way hs k i).take d))) := by
        rw [upd_same]
        show some (HO.lst (List.take d (List.map VI (way hs k i)))) = some (HO.lst (List.map VI (List.take d (way hs k i))))
        rw [List.map_take]
      generalize upd (upd H' tt (.tup [.int (i : Nat), .ref l])) sl (.lst ((vns (way hs k i)).take d)) = H6 at e6 hsl6
      refine ⟨sl, rfl, ⟨_, .inl (.inl hsl6)⟩, ?_⟩
      have hwyl := wayF_len hs k hs.length i
      refine lcL (K := K) (xs := vns ((way hs k i).take d)) (.inl (.inl hsl6)) (f := fun _ => true) (E := fun j y _ => ∀ x, ((way hs k i).take d)[j]? = some x → y = .bl (!lost.contains x)) (fun j y H H' e h => h) (by rw [List.length_map, List.length_take]; have : (way hs k i).length ≤ hs.length + 1 := hwyl; omega) (fun D2 j z H7 hD2 e7 hys2 hz Qy2 Qn2 qy2 qn2 => ?_) (fun D2 ys2 H7 hD2 e7 hy7 hp7 => ?_)
      · obtain ⟨xx, hxx, rfl⟩ := vns_at hz
        have e87 := (e.trans e6).trans e7
        refine yes_go rfl ?_
        refine ⟨_, rfl, _, rfl, px, cPic K, pdx, _, _, rfl, e87 _ _ hX8, T.clPicture, T.naPicture_told, pic_told _ _ _, pt, _, rfl, DGet.k (k := Sum.inl (xx : Int)) (e87 _ _ hT8), ?_⟩
        refine qy2 _ _ (Ex.refl _) rfl (fun x hx => ?_)
        rw [hxx] at hx
        cases hx
        have hle : xx ≤ hs.length := wayF_le Tr _ _ (show i ≤ hs.length by omega) xx (List.mem_of_mem_take (List.mem_of_getElem? hxx))
        congr 1
        by_cases hm : xx ∈ lost
        · rw [hK.none (fun z => (mem_places.mp z).2 hm)]
          have : lost.contains xx = true := List.contains_iff_mem.mpr hm
          rw [this]; rfl
        · obtain ⟨v, hv, _⟩ := hK.val (mem_places.mpr ⟨hle, hm⟩)
          rw [hv]
          have : lost.contains xx = false := by
            cases hc : lost.contains xx with
            | false => rfl
            | true => exact absurd (List.contains_iff_mem.mp hc) hm
          rw [this]; rfl
      · rw [filter_true, List.length_map] at hp7
        have h5 := paired_eq (f := fun x => V.bl (!lost.contains x)) (paired_range (F := fun x y => y = V.bl (!lost.contains x)) hp7)
        have e87 := (e6.trans e7)
        refine ⟨D2, ((way hs k i).take d).map fun x => !lost.contains x, rfl, .inl (.inl (by rw [hy7, h5, List.map_map]; rfl)), ?_⟩
        have hany : (!(((way hs k i).take d).map fun x => !lost.contains x).any id) = ((way hs k i).take d).all fun x => lost.contains x := by
          rw [List.any_map, List.not_any_eq_all_not]
          congr 1
          funext x
          simp
        refine ⟨_, rfl, ?_⟩
        show if (!(((way hs k i).take d).map fun x => !lost.contains x).any id) = true then _ else _
        rw [hany]
        refine ite2 (fun h => ?_) (fun h => ?_)
        · exact ⟨_, rfl, qy _ _ e87 h rfl⟩
        · exact qn _ (by simpa using h) e87
    have eY : ys = vns (every hs k d lost) := paired_eq (f := fun i => VI i) hp9
    subst eY
    -- self.lots
    have e79 := e78.trans e89
    have hp9' := e89 _ _ hp8
    have htl9 := e79 _ _ htlB
    have hpc9 := e79 _ _ hpcB
    have evl : (every hs k d lost).length ≤ hs.length + 1 := filter_range_len _ _
    have tpl : (tops hs.length k).length ≤ hs.length + 1 := filter_range_len _ _
    refine ⟨_, rfl, p, cLaid K, dx, _, _, rfl, hp9', T.clLaid, T.naLaid_tops, by rw [lookup_putF, if_pos rfl], tl, rfl, ⟨_, .inl (.inl htl9)⟩, ?_⟩
    refine lcL (K := K) (xs := vns (tops hs.length k)) (.inl (.inl htl9)) (f := fun _ => true) (E := fun i y H => ∀ tq, (tops hs.length k)[i]? = some tq → ∃ a, y = .ref a ∧ H a = some (.tup (vns (lot hs k d lost tq)))) (fun i y H H' e h tq ht => let ⟨a, h1, h2⟩ := h tq ht; ⟨a, h1, e _ _ h2⟩) (by rw [List.length_map]; omega) (fun D i z H' hD e hys hz Qy Qn qy qn => ?_) (fun ll lots H10 hll e910 hy10 hp10 => ?_)
    · obtain ⟨tq, htq, rfl⟩ := vns_at hz
      obtain ⟨ysD, hys⟩ := hys
      refine yes_go rfl ?_
      have hpl' := e _ _ hy9
      refine ⟨.ref pl, rfl, pl, rfl, ⟨_, .inl (.inl hpl')⟩, ?_⟩
      refine lcL (K := K) (xs := vns (every hs k d lost)) (.inl (.inl hpl')) (f := fun j => decide (topp hs k ((every hs k d lost).getD j 0) = tq)) (E := fun j y _ => y = VI ((every hs k d lost).getD j 0)) (fun _ => mono_eq) (by rw [List.length_map]; omega) (fun D2 j z H7 hD2 e7 hys2 hz Qy2 Qn2 qy2 qn2 => ?_) (fun D2 ys2 H7 hD2 e7 hy7 hp7 => ?_)
      · obtain ⟨xx, hxx, rfl⟩ := vns_at hz
        have exx : (every hs k d lost).getD j 0 = xx := by rw [List.getD_eq_getElem?_getD, hxx]; rfl
        have hle : xx ≤ hs.length := by
          have := List.mem_of_getElem? hxx
          unfold every at this
          rw [List.mem_filter, List.mem_range] at this
          omega
        have e97 := e.trans e7
        refine ⟨rfl, ?_⟩
        refine ⟨_, rfl, p, cLaid K, dx, _, _, rfl, e97 _ _ hp9', T.clLaid, T.naLaid_piece, by rw [lookup_putF, if_neg (by decide +kernel), lookup_putF, if_pos rfl], _, rfl, pc, VI (topp hs k xx), rfl, ?_, _, rfl, rfl, _, rfl, ?_⟩
        · have := DGet.k (k := Sum.inl (xx : Int)) (e97 _ _ hpc9)
          rw [hpcv xx hle] at this
          exact this
        rw [dec_vI]
        rw [exx] at qy2 qn2
        refine ite2 (fun h => ?_) (fun h => ?_)
        · exact ⟨_, rfl, qy2 _ _ (Ex.refl _) h rfl⟩
        · exact qn2 _ (by simpa using h) (Ex.refl _)
      · have h5 := paired_eq (f := fun j => VI ((every hs k d lost).getD j 0)) hp7
        have h6 : ys2 = vns (lot hs k d lost tq) := by
          rw [h5, List.length_map]
          have em : (List.range (every hs k d lost).length).map (fun i => (every hs k d lost).getD i 0) = every hs k d lost := range_map_at fun i x h => by rw [List.getD_eq_getElem?_getD, h]; rfl
          have e8 : ((List.range (every hs k d lost).length).filter fun j => decide (topp hs k ((every hs k d lost).getD j 0) = tq)).map (fun j => (every hs k d lost).getD j 0) = (every hs k d lost).filter fun p => decide (topp hs k p = tq) := by
            conv => rhs; rw [← em]
            rw [List.filter_map]
            rfl
          show _ = List.map VI (lot hs k d lost tq)
          unfold lot
          rw [← e8, List.map_map]
          rfl
        refine ⟨D2, _, rfl, .inl ⟨.inl (.inl hy7), fun ta hta => ?_⟩⟩
        refine qy _ _ (e7.trans (Ex.new hta)) rfl (fun tq' ht' => ⟨ta, rfl, ?_⟩)
        rw [htq] at ht'
        cases ht'
        rw [del_ne (ne_of_none (e7 _ _ hys) hta).symm, upd_same, h6]
    rw [filter_true, List.length_map] at hp10
    have hL10 : LotsAt (del H10 ll) hs k d lost lots := paired_range (F := fun tq y => ∃ a, y = V.ref a ∧ (del H10 ll) a = some (.tup (vns (lot hs k d lost tq)))) hp10
    have nll : ll ≠ p := (ne_of_none hp9' hll).symm
    refine ⟨_, rfl, p, cLaid K, dx, _, rfl, e910 _ _ hp9', T.clLaid, T.naLaid_lots, Nat.lt_of_le_of_lt (putF_lt (putF_lt (putF_lt (putF_lt (m := 0) (Nat.le_refl _))))) (by decide), ?_⟩
    -- self.every
    have npl : pl ≠ p := (ne_of_none hp8 hpl).symm
    have hpl11 : (upd H10 p (.ins (cLaid K) dx (putF "lots" (.ref ll) (putF "tops" (.ref tl) (putF "piece" (.ref pc) (putF "ties" (.ref t) (putF "blocks" (VI hs.length) []))))))) pl = some (.lst (vns (every hs k d lost))) := by rw [upd_ne npl]; exact e910 _ _ hy9
    refine ⟨.ref pl, rfl, pl, _, rfl, .inl ⟨.inl (.inl hpl11), fun ev hev => ?_⟩⟩
    have nev : ev ≠ p := fun z => by rw [z, upd_same] at hev; cases hev
    refine ⟨_, rfl, p, cLaid K, dx, _, rfl, by rw [upd_ne nev.symm, upd_same], T.clLaid, T.naLaid_every, Nat.lt_of_le_of_lt (putF_lt (putF_lt (putF_lt (putF_lt (putF_lt (m := 0) (Nat.le_refl _)))))) (by decide), ?_⟩
    have hev10 : H10 ev = none := by rw [upd_ne nev] at hev; exact hev
    have eB10 : Ex B7 (del H10 p) := ex_back (e79.trans e910) hB7
    -- the last heap
    have eL : Ex (del H10 p) (upd (upd (upd H10 p (.ins (cLaid K) dx (putF "lots" (.ref ll) (putF "tops" (.ref tl) (putF "piece" (.ref pc) (putF "ties" (.ref t) (putF "blocks" (VI hs.length) []))))))) ev (.tup (vns (every hs k d lost)))) p (.ins (cLaid K) dx (fsLaid hs.length t pc tl ll ev))) := fun b o hb => by
      have nb : b ≠ p := fun z => by rw [z, del_same] at hb; cases hb
      rw [del_ne nb] at hb
      have nb2 : b ≠ ev := ne_of_none hb hev10
      rw [upd_ne nb, upd_ne nb2, upd_ne nb]
      exact hb
    have hevL : (upd (upd (upd H10 p (.ins (cLaid K) dx (putF "lots" (.ref ll) (putF "tops" (.ref tl) (putF "piece" (.ref pc) (putF "ties" (.ref t) (putF "blocks" (VI hs.length) []))))))) ev (.tup (vns (every hs k d lost)))) p (.ins (cLaid K) dx (fsLaid hs.length t pc tl ll ev))) ev = some (.tup (vns (every hs k d lost))) := by
      rw [upd_ne nev, upd_same]
    have nlist : ∀ {b : Addr} {xs : List V}, H10 b = some (.tup xs) → (del H10 p) b = some (.tup xs) := fun hb => by
      rw [del_ne (ne_of hb (e910 _ _ hp9') (by intro z; cases z))]; exact hb
    refine q _ ((eBB.trans eB10).trans eL) ⟨p, dx, t, pc, tl, ll, ev, lots, rfl, upd_same, ?_, ?_, ?_, ?_, ?_, ?_⟩
    · rw [hk]; exact ((hTies.mono eBB).mono eB10).mono eL
    · rw [hk]; exact ⟨kv3, eL _ _ (eB10 _ _ hpcB), hpcv⟩
    · rw [hk]; exact eL _ _ (eB10 _ _ htlB)
    · refine eL _ _ ?_
      rw [del_ne nll]; exact hy10
    · rw [hk]
      refine paired_imp hL10 fun _ _ _ ⟨a, h1, h2⟩ => ⟨a, h1, eL _ _ (nlist (ex_del _ _ h2))⟩
    · rw [hk]; exact hevL
end
end Fv
end
section
/-! many, hung_by, digits, laid -/
namespace Fv
open PySem PySem.Spec PyProof.Rows L2 Evl
theorem forJ {J : It} {n : Nat} {g : TG} {tb : TS} {D : Ends} {σ : L2.St} {H : Hp} (Pv : Nat → L2.St → Hp → Prop) (h0 : Pv 0 σ H) (hgo : ∀ i σ H, i < n → Pv i σ H → J.go i H) (hstop : ∀ σ H, Pv n σ H → J.stop n H)
    (hs : ∀ i σ H x H', i < n → Pv i σ H → J.yld i H x H' → g x σ H' fun σ2 H2 => tb { D with nx := Pv (i + 1), ct := Pv (i + 1), bk := D.nx } σ2 H2) (hd : ∀ σ H, Pv n σ H → D.nx σ H) :
    ∃ W : Nat → Nat → L2.St → Hp → Prop, (∃ m, W 0 m σ H) ∧ ∀ i m σ H, W i m σ H →
      (J.stop i H ∧ D.nx σ H) ∨ (J.go i H ∧ ∃ N : L2.St → Hp → Prop, (∀ σ' H', N σ' H' → ∃ m', m' < m ∧ W (i + 1) m' σ' H') ∧ ∀ x H', J.yld i H x H' → g x σ H' fun σ2 H2 => tb { D with nx := N, ct := N, bk := D.nx } σ2 H2) := by
  refine ⟨fun i m σ H => m = n - i ∧ i ≤ n ∧ Pv i σ H, ⟨n, by simp, Nat.zero_le _, h0⟩, ?_⟩
  rintro i m σ H ⟨rfl, hi, p⟩
  by_cases hlt : i < n
  · exact .inr ⟨hgo i σ H hlt p, Pv (i + 1), fun σ' H' p' => ⟨n - (i + 1), by omega, rfl, hlt, p'⟩, fun x H' y => hs i σ H x H' hlt p y⟩
  · have e : i = n := by omega
    subst e
    exact .inl ⟨hstop σ H p, hd σ H p⟩
theorem cut_drop1 (xs : List V) : cutV xs (some 1) none = xs.drop 1 := cut_drop xs 1
theorem cut_drop2 (xs : List V) : cutV xs (some 2) none = xs.drop 2 := cut_drop xs 2
theorem filt_idx {l : List Nat} (P : Nat → Bool) : ((List.range l.length).filter fun j => P (l.getD j 0)).map (fun j => l.getD j 0) = l.filter P := by
  have em : (List.range l.length).map (fun i => l.getD i 0) = l := range_map_at fun i x h => by rw [List.getD_eq_getElem?_getD, h]; rfl
  conv => rhs; rw [← em]
  rw [List.filter_map]
  rfl
theorem tops_head {n : Nat} {k : Nat → Bool} (k0 : k 0 = false) : tops n k = 0 :: (tops n k).tail := by
  unfold tops
  rw [List.range_succ_eq_map, List.filter_cons, if_pos (by rw [k0]; rfl)]
  rfl
theorem minL_ok : ∀ {l : List Nat} {t : Nat}, minL l = some t → t ∈ l ∧ ∀ y ∈ l, t ≤ y
  | [], t, h => by cases h
  | a :: r, t, h => by
    unfold minL at h
    cases hr : minL r with
    | none =>
      rw [hr] at h
      cases h
      have : r = [] := by
        cases r with
        | nil => rfl
        | cons b s =>
          unfold minL at hr
          cases hs : minL s with
          | none => rw [hs] at hr; cases hr
          | some m => rw [hs] at hr; cases hr
      subst this
      exact ⟨List.mem_singleton.mpr rfl, fun y hy => by rw [List.mem_singleton] at hy; omega⟩
    | some m =>
      rw [hr] at h
      obtain ⟨h1, h2⟩ := minL_ok hr
      have h := Option.some.inj h
      subst h
      by_cases ham : a ≤ m
      · rw [if_pos ham]
        exact ⟨List.mem_cons_self .., fun y hy => by
          rcases List.mem_cons.mp hy with rfl | hy
          · exact Nat.le_refl _
          · exact Nat.le_trans ham (h2 y hy)⟩
      · rw [if_neg ham]
        exact ⟨List.mem_cons_of_mem _ h1, fun y hy => by
          rcases List.mem_cons.mp hy with rfl | hy
          · omega
          · exact h2 y hy⟩
theorem resF_ok {fnd : Nat → Option Nat} : ∀ {n : Nat} {res : List Nat}, resF fnd n = some res → res.length = n ∧ ∀ i, i < n → fnd (i + 1) = res[i]?
  | 0, res, h => by cases h; exact ⟨rfl, fun i hi => by omega⟩
  | n + 1, res, h => by
    unfold resF at h
    cases h1 : resF fnd n with
    | none => rw [h1] at h; cases h
    | some l =>
      cases h2 : fnd (n + 1) with
      | none => rw [h1, h2] at h; cases h
      | some x =>
        rw [h1, h2] at h
        cases h
        obtain ⟨e1, e2⟩ := resF_ok h1
        refine ⟨by rw [List.length_append, List.length_singleton, e1], fun i hi => ?_⟩
        by_cases hin : i < n
        · rw [List.getElem?_append_left (by omega)]
          exact e2 i hin
        · have : i = n := by omega
          subst this
          rw [List.getElem?_append_right (by omega), e1, Nat.sub_self, h2]
          rfl
theorem filter_len {α : Type} (p : α → Bool) (l : List α) : (l.filter p).length ≤ l.length := List.length_filter_le p l
def DigAt (H : Hp) (dg : List (List Nat)) (ys : List V) : Prop := Paired (fun (ds : List Nat) (y : V) => ∃ a, y = .ref a ∧ H a = some (.tup (vns ds))) dg ys
theorem paired_rep {F : List Nat → V → Prop} {a : List Nat} {y : V} (h : F a y) : ∀ n, Paired F (List.replicate n a) (List.replicate n [y]).flatten
  | 0 => .nil
  | n + 1 => by
    rw [List.replicate_succ, List.replicate_succ, List.flatten_cons]
    exact .cons h (paired_rep h n)
theorem rep_flat_len (y : V) : ∀ n, (List.replicate n [y]).flatten.length = n
  | 0 => rfl
  | n + 1 => by rw [List.replicate_succ, List.flatten_cons, List.length_append, rep_flat_len y n]; simp; omega
section
variable {P : Program} {w : World} {K : PySem.W.Frag} {mg : Str → Option Value} {base : Heap}
def sp_Laid_many (K : PySem.W.Frag) : Sp := fun vs H Q _ => ∃ (v : V) (hs : List Nat) (u d : Nat) (lost : List Nat), vs = [v] ∧ LaidAt K H v hs u d lost ∧ TreeOk hs ∧
  ∀ H', Ex H H' → Q (VI (manyF (tops hs.length (kn hs u d lost)).length (lot hs (kn hs u d lost) d lost 0).length (every hs (kn hs u d lost) d lost).length)) H'
theorem ok_Laid_many (T : Txt K mg) : Methd P w K mg base 1 (cLaid K) "many" ["self"] (sp_Laid_many K) := by
  refine methd_mk T.f_Laid_many T.clLaid T.me_many (fun fd F => ?_) (fun _ _ _ _ _ _ us hl => match us, hl with | [_], _ => rfl)
  refine F.ok sc_Laid_many (fun vs H Q E h => ?_) (fun cdv A outer s H vs Q E hr h => ?_)
  · obtain ⟨v, hs, u, d, lost, rfl, _⟩ := h; rfl
  · obtain ⟨v, hs, u, d, lost, rfl, ⟨x, dx, t, pc, tl, ll, ev, lots, rfl, hX, hT, hP, hTl, hLl, hLots, hEv⟩, Tr, q⟩ := h
    have h40 := Tr.n40
    have k0 := kn0 Tr u d lost
    generalize kn hs u d lost = k at hT hP hTl hLots hEv q k0
    have hth := tops_head (n := hs.length) k0
    have tpl : (tops hs.length k).length ≤ hs.length + 1 := filter_range_len _ _
    have evl : (every hs k d lost).length ≤ hs.length + 1 := filter_range_len _ _
    refine ⟨_, (pss_cons (ps_if (pt_cmpR op_eq (pe_callB call_len_seq (by rfl) T.n_len PySem.boot_len (pa_cons (pe_fld (pv 0) rfl) pa_nil)) pe_int (nomark _)) (pss_one (ps_ret pe_int)) pss_nil)
      (pss_cons (ps_set (i := 1) sc_Laid_many.nd rfl (Or.inl rfl) (pe_callB call_len_seq (by rfl) T.n_len PySem.boot_len (pa_cons (pe_ix ix_list (pe_fld (pv 0) rfl) pe_int (fun _ _ => rfl)) pa_nil)))
      (pss_cons (ps_for PassesOwn.never rfl (pi_list (pe_slice sl_list (pe_fld (pv 0) rfl) (po_some pe_int) po_none)) (pg_name (i := 2) sc_Laid_many.nd rfl (Or.inl rfl))
        (pss_one (ps_aug (i := 1) sc_Laid_many.nd rfl (Or.inl rfl) (pe_callB call_len_seq (by rfl) T.n_len PySem.boot_len (pa_cons (pe_fld (pv 0) rfl) pa_nil)) ip_mul)))
      (pss_one (ps_ret (pv 1)))))), ?_⟩
    refine ⟨_, rfl, x, cLaid K, dx, _, _, rfl, hX, T.clLaid, T.naLaid_tops, laid_tops .., tl, _, rfl, .inl (.inl (.inl hTl)), rfl, _, rfl, ?_⟩
    have ed : decide (V.int (((vns (tops hs.length k)).length : Nat) : Int) = V.int 1) = decide ((tops hs.length k).length = 1) := by
      rw [show (V.int 1) = V.int ((1 : Nat) : Int) from rfl, dec_vI, List.length_map]
    rw [ed]
    refine ite2 (fun h => ?_) (fun h => ?_)
    · have h := of_decide_eq_true h
      have q := q H (Ex.refl H)
      unfold manyF at q
      rw [if_pos h] at q
      exact q
    · have h : ¬ (tops hs.length k).length = 1 := fun z => h (decide_eq_true z)
      have hl0 : (tops hs.length k)[0]? = some 0 := by rw [hth]; rfl
      obtain ⟨y0, hy0, a0, rfl, ha0⟩ := paired_get2 hLots hl0
      refine ⟨_, rfl, x, cLaid K, dx, _, _, rfl, hX, T.clLaid, T.naLaid_lots, laid_lots .., ll, _, _, _, rfl, rfl, .inl (.inl hLl), atI_nat (j := 0) hy0, a0, _, rfl, .inr (.inl (.inl ha0)), ?_⟩
      refine ⟨_, rfl, x, cLaid K, dx, _, _, rfl, hX, T.clLaid, T.naLaid_tops, laid_tops .., _, rfl, tl, _, rfl, .inl (.inl hTl), fun sl hsl => ?_⟩
      rw [cut_drop2]
      have e1 : Ex H (upd H sl (.lst ((vns (tops hs.length k)).drop 2))) := Ex.new hsl
      have hsl1 : (upd H sl (.lst ((vns (tops hs.length k)).drop 2))) sl = some (.lst ((vns (tops hs.length k)).drop 2)) := upd_same
      generalize upd H sl (.lst ((vns (tops hs.length k)).drop 2)) = H1 at e1 hsl1
      refine ⟨sl, rfl, ⟨_, .inl (.inl hsl1)⟩, ?_⟩
      refine for_list (K := K) (xs := (vns (tops hs.length k)).drop 2) (fun i σ H' => Ex H1 H' ∧ ∃ y, σ = [some (.ref x), some (VI ((lot hs k d lost 0).length * (every hs k d lost).length ^ i)), y])
        ⟨Ex.refl _, none, by rw [Nat.pow_zero, Nat.mul_one, List.length_map]; rfl⟩ (fun i σ H' _ h => .inl (.inl (h.1 _ _ hsl1))) ?_ ?_
      · rintro i y σ H2 hy ⟨e2, y2, rfl⟩
        have e12 := e1.trans e2
        refine ⟨_, rfl, _, rfl, x, cLaid K, dx, _, _, rfl, e12 _ _ hX, T.clLaid, T.naLaid_every, laid_every .., ev, _, rfl, .inr (.inl (.inl (e12 _ _ hEv))), _, _, rfl, rfl, .inr ⟨by rw [List.length_map]; omega, by rw [List.length_map]; omega⟩, e2, some y, ?_⟩
        rw [List.length_map, Nat.pow_succ, ← Nat.mul_assoc]
        show [_, some (V.int (((lot hs k d lost 0).length * (every hs k d lost).length ^ i : Nat) * ((every hs k d lost).length : Nat) : Int)), _] = _
        rw [← Int.natCast_mul]
      · rintro σ H2 ⟨e2, y2, rfl⟩
        have q := q H2 (e1.trans e2)
        unfold manyF at q
        rw [if_neg h] at q
        refine ⟨_, rfl, ?_⟩
        rw [List.length_drop, List.length_map]
        exact q
def sp_Laid_hung_by (K : PySem.W.Frag) : Sp := fun vs H Q _ => ∃ (v : V) (na : Addr) (notes : List Nat) (hs : List Nat) (u d : Nat) (lost : List Nat) (fnd : Nat → Option Nat) (res : List Nat), vs = [v, .ref na] ∧ LaidAt K H v hs u d lost ∧ TreeOk hs ∧ H na = some (.lst (vns notes)) ∧ notes.length ≤ 100 ∧ (∀ p ∈ notes, p ≤ hs.length) ∧
  hungLoop (topp hs (kn hs u d lost)) notes (tops hs.length (kn hs u d lost)).tail (fun b => if kn hs u d lost b = true then some (par hs b) else none) = some fnd ∧ resF fnd hs.length = some res ∧
  ∀ a H', Ex H H' → H' a = some (.tup (vns res)) → Q (.ref a) H'
theorem ok_Laid_hung_by (T : Txt K mg) : Methd P w K mg base 1 (cLaid K) "hung_by" ["self", "notes"] (sp_Laid_hung_by K) := by
  refine methd_mk T.f_Laid_hung_by T.clLaid T.me_hung_by (fun fd F => ?_) (fun _ _ _ _ _ _ us hl => match us, hl with | [_, _], _ => rfl)
  refine F.ok sc_Laid_hung_by (fun vs H Q E h => ?_) (fun cdv A outer s H vs Q E hr h => ?_)
  · obtain ⟨v, na, notes, hs, u, d, lost, fnd, res, rfl, _⟩ := h; rfl
  · obtain ⟨v, na, notes, hs, u, d, lost, fnd, res, rfl, ⟨x, dx, t, pc, tl, ll, ev, lots, rfl, hX, hT, hP, hTl, hLl, hLots, hEv⟩, Tr, hNa, hnl, hnb, hloop, hres, q⟩ := h
    have hu := hu_of hr
    have h40 := Tr.n40
    generalize kn hs u d lost = k at hT hP hTl hLots hEv hloop
    obtain ⟨kvt, hkt, hktl, hktv⟩ := hT
    have tpl : (tops hs.length k).length ≤ hs.length + 1 := filter_range_len _ _
    refine ⟨_, (pss_cons (ps_set (i := 2) sc_Laid_hung_by.nd rfl (Or.inr rfl) (pe_callTy call_dictD (by rfl) T.n_dict (by decide +kernel) (pa_cons (pe_fld (pv 0) rfl) pa_nil)))
      (pss_cons (ps_set (i := 3) sc_Laid_hung_by.nd rfl (Or.inl rfl) (pe_slice sl_list (pe_fld (pv 0) rfl) (po_some pe_int) po_none))
      (pss_cons (ps_for PassesOwn.never rfl (pi_enum (by rfl) T.n_enumerate (pa_cons (pv 1) pa_nil)) (pg_tup (by rfl) (pgs_cons (pg_name (i := 4) sc_Laid_hung_by.nd rfl (Or.inl rfl)) (pgs_cons (pg_name (i := 5) sc_Laid_hung_by.nd rfl (Or.inl rfl)) pgs_nil)))
        (pss_cons (ps_set (i := 6) sc_Laid_hung_by.nd rfl (Or.inr rfl) (pe_lc (own := [("later", 8)]) (g := (gName 8)) (tt := tYes) (by rfl) sc_Laid_hung_by.nd (pi_list (pe_slice sl_list (pv 1) (po_some (pv 4)) po_none)) (blkOk_by (own := [("later", 8)]) (N := N_Laid_hung_by) (sc := defScope s_Laid_hung_by) (by decide +kernel)) (fun _ _ _ _ _ => (pg_name (i := 8) sc_Laid_hung_by.nd rfl (Or.inl rfl))) (fun _ _ _ _ _ => pts_nil) (fun _ _ _ _ _ => (pe_dget hu (pe_fld_K K (pv 0) rfl) (pv 8) (fun _ _ => rfl)))))
      (pss_cons (ps_set (i := 7) sc_Laid_hung_by.nd rfl (Or.inr rfl) (pe_callB (cr_min rfl) (by rfl) T.n_min (by decide +kernel) (pa_cons (pe_lc (own := [("one", 9)]) (g := (gName 9))  (by rfl) sc_Laid_hung_by.nd (pi_list (pv 3)) (blkOk_by (own := [("one", 9)]) (N := N_Laid_hung_by) (sc := defScope s_Laid_hung_by) (by decide +kernel)) (fun _ _ _ _ _ => (pg_name (i := 9) sc_Laid_hung_by.nd rfl (Or.inl rfl))) (fun _ _ _ _ _ => (pts_one (pt_cmpR (op_notIn_seq_K K) (pv 9) (pv 6) (by rfl)))) (fun _ _ _ _ _ => (pv 9))) pa_nil)))
      (pss_cons (ps_dput hu (pv 2) (pv 7) (pv 5) rfl)
      (pss_one (ps_setLc (i := 3) (own := [("one", 9)]) (g := (gName 9))  (by rfl) sc_Laid_hung_by.nd rfl rfl (sw_true rfl rfl rfl (by decide +kernel)) (pi_list (pv 3)) (blkOk_by (own := [("one", 9)]) (N := N_Laid_hung_by) (sc := defScope s_Laid_hung_by) (by decide +kernel)) (fun _ _ _ _ _ => (pg_name (i := 9) sc_Laid_hung_by.nd rfl (Or.inl rfl))) (fun _ _ _ _ _ => (pts_one (pt_cmpR op_ne (pv 9) (pv 7) (nomark _)))) (fun _ _ _ _ _ => (pv 9))))))))
      (pss_one (ps_ret (pe_callTy call_tuple_of (by rfl) T.n_tuple (by decide +kernel) (pa_cons (pe_lc (own := [("block", 10)]) (g := (gName 10)) (tt := tYes) (by rfl) sc_Laid_hung_by.nd (pi_range2 (by rfl) T.n_range (pa_cons pe_int (pa_cons (pe_op op_add (pe_fld (pv 0) rfl) pe_int) pa_nil))) (blkOk_by (own := [("block", 10)]) (N := N_Laid_hung_by) (sc := defScope s_Laid_hung_by) (by decide +kernel)) (fun _ _ _ _ _ => (pg_name (i := 10) sc_Laid_hung_by.nd rfl (Or.inl rfl))) (fun _ _ _ _ _ => pts_nil) (fun _ _ _ _ _ => (pe_dget hu (pv 2) (pv 10) (fun _ _ => rfl)))) pa_nil))))))), ?_⟩
    refine ⟨_, rfl, x, cLaid K, dx, _, _, rfl, hX, T.clLaid, T.naLaid_ties, laid_ties .., t, kvt, rfl, .inl hkt, fun fdA hfd => ?_⟩
    have e1 : Ex H (upd H fdA (.dK kvt)) := Ex.new hfd
    have hF1 : (upd H fdA (.dK kvt)) fdA = some (.dK kvt) := upd_same
    generalize upd H fdA (.dK kvt) = H1 at e1 hF1
    refine ⟨_, rfl, x, cLaid K, dx, _, _, rfl, e1 _ _ hX, T.clLaid, T.naLaid_tops, laid_tops .., _, rfl, tl, _, rfl, .inl (.inl (e1 _ _ hTl)), fun la hla => ?_⟩
    rw [cut_drop1]
    have hla2 : (upd H1 la (.lst ((vns (tops hs.length k)).drop 1))) la = some (.lst (vns (tops hs.length k).tail)) := by
      rw [upd_same]
      show some (HO.lst (List.drop 1 (List.map VI (tops hs.length k)))) = some (HO.lst (List.map VI (tops hs.length k).tail))
      rw [← List.map_drop, List.drop_one]
    have e2 : Ex H1 (upd H1 la (.lst ((vns (tops hs.length k)).drop 1))) := Ex.new hla
    generalize upd H1 la (.lst ((vns (tops hs.length k)).drop 1)) = H2 at e2 hla2
    have e12 := e1.trans e2
    refine ⟨.ref na, rfl, na, _, rfl, .inl (.inl (e12 _ _ hNa)), ?_⟩
    refine forJ (J := Ite K na) (n := notes.length) (fun i σ H' => ∃ (v4 v5 v6 v7 v8 v9 v10 : Option V) (la : Addr) (left : List Nat) (fi : Nat → Option Nat) (kvs : List (Key × V)),
        σ = [some (.ref x), some (.ref na), some (.ref fdA), some (.ref la), v4, v5, v6, v7, v8, v9, v10] ∧ Ex H H' ∧ H' la = some (.lst (vns left)) ∧ left.length ≤ 100 ∧ H' fdA = some (.dK kvs) ∧ kvs.length ≤ 10000 + i ∧ (∀ b : Nat, valV kvs (Sum.inl (b : Int)) = (fi b).map VI) ∧
        hungLoop (topp hs k) (notes.drop i) left fi = some fnd)
      ⟨none, none, none, none, none, none, none, la, _, _, kvt, rfl, e12, hla2, by rw [List.length_tail]; omega, e2 _ _ hF1, by omega, fun b => ?_, hloop⟩
      (fun i σ H' hi ⟨_, _, _, _, _, _, _, _, _, _, _, _, e, _⟩ => ⟨_, VI notes[i], .inl (.inl (e _ _ hNa)), by rw [List.getElem?_map, List.getElem?_eq_getElem hi]; rfl⟩)
      (fun σ H' ⟨_, _, _, _, _, _, _, _, _, _, _, _, e, _⟩ => ⟨_, .inl (.inl (e _ _ hNa)), by rw [List.length_map]; exact Nat.le_refl _⟩) ?_ ?_
    · rw [hktv b]; split <;> rfl
    · rintro i σ H3 z H4 hi ⟨v4, v5, v6, v7, v8, v9, v10, la, left, fi, kvs, rfl, e3, hLa, hll, hFd, hkl, hkv, hlp⟩ hyl
      obtain ⟨tt, x1, rfl, nT, rfl, f1⟩ := hyl
      obtain ⟨pl, hpl, rfl⟩ := vns_at (f1 _ (.inl (.inl (e3 _ _ hNa))))
      have e4 := Ex.new (o := .tup [.int (i : Nat), VI pl]) nT
      refine ⟨tt, _, rfl, .inl (.inl upd_same), rfl, _, _, rfl, _, _, rfl, rfl, ?_⟩
      have e34 := e3.trans e4
      have hLa4 := e4 _ _ hLa
      have hFd4 := e4 _ _ hFd
      generalize upd H3 tt (.tup [.int (i : Nat), VI pl]) = H4 at e4 e34 hLa4 hFd4
      clear nT f1 hLa hFd
      have hdr : notes.drop i = pl :: notes.drop (i + 1) := by
        obtain ⟨h1, h2⟩ := List.getElem?_eq_some_iff.mp hpl
        rw [← h2]; exact List.drop_eq_getElem_cons h1
      rw [hdr] at hlp
      unfold hungLoop at hlp
      cases hmin : minL (left.filter fun o => !(((pl :: notes.drop (i + 1)).map (topp hs k)).contains o)) with
      | none => rw [hmin] at hlp; cases hlp
      | some tp =>
      rw [hmin] at hlp
      dsimp only at hlp
      refine ⟨.ref na, rfl, _, rfl, _, rfl, na, _, rfl, .inl (.inl (e34 _ _ hNa)), fun sl hsl => ?_⟩
      rw [cut_drop]
      have hsl5 : (upd H4 sl (.lst ((vns notes).drop i))) sl = some (.lst (vns (notes.drop i))) := by
        rw [upd_same]
        show some (HO.lst (List.drop i (List.map VI notes))) = some (HO.lst (List.map VI (notes.drop i)))
        rw [← List.map_drop]
      have e5 : Ex H4 (upd H4 sl (.lst ((vns notes).drop i))) := Ex.new hsl
      generalize upd H4 sl (.lst ((vns notes).drop i)) = H5 at e5 hsl5
      refine ⟨sl, rfl, ⟨_, .inl (.inl hsl5)⟩, ?_⟩
      refine lcL (K := K) (xs := vns (notes.drop i)) (.inl (.inl hsl5)) (f := fun _ => true) (E := fun j y _ => ∀ p, (notes.drop i)[j]? = some p → y = VI (topp hs k p)) (fun j y H H' e h => h) (by rw [List.length_map, List.length_drop]; omega) (fun D j z H6 hD e6 hys hz Qy Qn qy qn => ?_) (fun ha ys H6 hha e6 hy6 hp6 => ?_)
      · obtain ⟨p, hp, rfl⟩ := vns_at hz
        obtain ⟨kvp, hkp, hkpv⟩ := hP
        have hpn := hnb p (List.mem_of_mem_drop (List.mem_of_getElem? hp))
        have e36 := (e34.trans e5).trans e6
        refine yes_go rfl ?_
        refine ⟨_, rfl, x, cLaid K, dx, _, _, rfl, e36 _ _ hX, T.clLaid, T.naLaid_piece, laid_piece .., _, rfl, pc, VI (topp hs k p), rfl, ?_, ?_⟩
        · have := DGet.k (k := Sum.inl (p : Int)) (e36 _ _ hkp)
          rw [hkpv p hpn] at this
          exact this
        · refine qy _ _ (Ex.refl _) rfl (fun p' hp' => ?_)
          rw [hp] at hp'
          cases hp'
          rfl
      rw [filter_true, List.length_map] at hp6
      have eH := paired_eq (f := fun p => VI (topp hs k p)) (paired_range (F := fun p y => y = VI (topp hs k p)) hp6)
      have hH6 : H6 ha = some (.lst (vns ((notes.drop i).map (topp hs k)))) := by
        rw [hy6, eH]
        show _ = some (HO.lst (List.map VI (List.map (topp hs k) (notes.drop i))))
        rw [List.map_map]
        rfl
      have e36 := (e34.trans e5).trans e6
      have e46 := e5.trans e6
      have hLa6 := e46 _ _ hLa4
      have hFd6 := e46 _ _ hFd4
      refine ⟨.ref la, rfl, la, rfl, ⟨_, .inl (.inl hLa6)⟩, ?_⟩
      refine lcL (K := K) (xs := vns left) (.inl (.inl hLa6)) (f := fun j => !(((pl :: notes.drop (i + 1)).map (topp hs k)).contains (left.getD j 0))) (E := fun j y _ => y = VI (left.getD j 0)) (fun _ => mono_eq) (by rw [List.length_map]; omega) (fun D j z H7 hD e7 hys hz Qy Qn qy qn => ?_) (fun ca ys H7 hca e7 hy7 hp7 => ?_)
      · obtain ⟨o, ho, rfl⟩ := vns_at hz
        have eo : left.getD j 0 = o := by rw [List.getD_eq_getElem?_getD, ho]; rfl
        rw [eo] at qy qn
        refine ⟨rfl, ?_⟩
        refine ⟨_, rfl, .ref ha, rfl, ha, _, rfl, .inl (.inl (.inl (e7 _ _ hH6))), rfl, vns_flat _, _, rfl, ?_⟩
        show if (!inV (VI o) (vns ((notes.drop i).map (topp hs k)))) = true then _ else _
        rw [inV_vns, hdr]
        refine ite2 (fun h => ?_) (fun h => ?_)
        · exact ⟨_, rfl, qy _ _ (Ex.refl _) h rfl⟩
        · exact qn _ (by simpa using h) (Ex.refl _)
      have eC : ys = vns (left.filter fun o => !(((pl :: notes.drop (i + 1)).map (topp hs k)).contains o)) := by
        rw [paired_eq (f := fun j => VI (left.getD j 0)) hp7, ← filt_idx (fun o => !(((pl :: notes.drop (i + 1)).map (topp hs k)).contains o)), List.length_map]
        show _ = List.map VI (List.map _ _)
        rw [List.map_map]
        rfl
      obtain ⟨hm1, hm2⟩ := minL_ok hmin
      dsimp only [tNil]
      refine ⟨ca, (left.filter fun o => !(((pl :: notes.drop (i + 1)).map (topp hs k)).contains o)).map fun p : Nat => (p : Int), rfl, .inl (.inl (by rw [hy7, eC, vns_cast])), ?_, fun m hmm hmle => ?_⟩
      · rw [List.length_map]; exact List.length_pos_of_mem hm1
      have emt : m = (tp : Int) := by
        obtain ⟨p, hp, rfl⟩ := List.mem_map.mp hmm
        have h1 := hm2 p hp
        have h2 := hmle (tp : Int) (List.mem_map.mpr ⟨tp, hm1, rfl⟩)
        omega
      subst emt
      have hFd7 := e7 _ _ hFd6
      have hLa7 := e7 _ _ hLa6
      refine ⟨_, rfl, .ref fdA, rfl, _, rfl, fdA, _, rfl, DPut.k (k := Sum.inl (tp : Int)) hFd7 (sz_lt (by omega)), ?_⟩
      have hfd0 : H fdA = none := hfd
      have nla : la ≠ fdA := ne_of hLa7 hFd7 (by intro z; cases z)
      have e38 : Ex H (upd H7 fdA (.dK (putK kvs (Sum.inl (tp : Int)) (VI pl)))) := (e36.trans e7).mut hfd0
      have hLa8 : (upd H7 fdA (.dK (putK kvs (Sum.inl (tp : Int)) (VI pl)))) la = some (.lst (vns left)) := by rw [upd_ne nla]; exact hLa7
      have hFd8 : (upd H7 fdA (.dK (putK kvs (Sum.inl (tp : Int)) (VI pl)))) fdA = some (.dK (putK kvs (Sum.inl (tp : Int)) (VI pl))) := upd_same
      generalize upd H7 fdA (.dK (putK kvs (Sum.inl (tp : Int)) (VI pl))) = H8 at e38 hLa8 hFd8
      refine ⟨.ref la, rfl, la, rfl, ⟨_, .inl (.inl hLa8)⟩, ?_⟩
      refine lcL (K := K) (xs := vns left) (.inl (.inl hLa8)) (f := fun j => decide (left.getD j 0 ≠ tp)) (E := fun j y _ => y = VI (left.getD j 0)) (fun _ => mono_eq) (by rw [List.length_map]; omega) (fun D j z H9 hD e9 hys hz Qy Qn qy qn => ?_) (fun ca ys H9 hca e9 hy9 hp9 => ?_)
      · obtain ⟨o, ho, rfl⟩ := vns_at hz
        have eo : left.getD j 0 = o := by rw [List.getD_eq_getElem?_getD, ho]; rfl
        rw [eo] at qy qn
        refine ⟨rfl, ?_⟩
        refine ⟨_, rfl, _, rfl, rfl, _, rfl, ?_⟩
        have ed : (!decide (VI o = V.int (tp : Int))) = decide (o ≠ tp) := by rw [dec_vI]; simp
        rw [ed]
        refine ite2 (fun h => ?_) (fun h => ?_)
        · exact ⟨_, rfl, qy _ _ (Ex.refl _) h rfl⟩
        · exact qn _ (by simpa using h) (Ex.refl _)
      have eC : ys = vns (left.filter fun o => decide (o ≠ tp)) := by
        rw [paired_eq (f := fun j => VI (left.getD j 0)) hp9, ← filt_idx (fun o => decide (o ≠ tp)), List.length_map]
        show _ = List.map VI (List.map _ _)
        rw [List.map_map]
        rfl
      refine ⟨_, _, _, _, _, _, _, ca, left.filter fun o => decide (o ≠ tp), fun b => if b = tp then some pl else fi b, _, rfl, e38.trans e9, by rw [hy9, eC], Nat.le_trans (filter_len _ _) hll, e9 _ _ hFd8, ?_, fun b => ?_, hlp⟩
      · have := putK_le kvs (Sum.inl (tp : Int)) (VI pl); omega
      · rw [valV_put, hkv b]
        show _ = Option.map VI (if b = tp then some pl else fi b)
        by_cases hb : b = tp
        · subst hb
          rw [if_pos rfl, if_pos rfl]
          rfl
        · rw [if_neg (fun z => hb (by injection z with z; omega)), if_neg hb]
    · rintro σ H3 ⟨v4, v5, v6, v7, v8, v9, v10, la, left, fi, kvs, rfl, e3, hLa, hll, hFd, hkl, hkv, hlp⟩
      rw [List.drop_length] at hlp
      have hlp : some fi = some fnd := hlp
      cases hlp
      obtain ⟨hrl, hrv⟩ := resF_ok hres
      refine ⟨_, rfl, x, cLaid K, dx, _, _, rfl, e3 _ _ hX, T.clLaid, T.naLaid_blocks, laid_blocks .., _, _, rfl, rfl, _, _, rfl, ⟨by omega, by omega, by omega, by omega⟩, ?_⟩
      refine lcR1 (n := hs.length) (by omega) (f := fun _ => true) (E := fun i y _ => ∀ p, res[i]? = some p → y = VI p) (fun i y H H' e h => h) (by omega) (fun D i H' hD e hys hi Qy Qn qy qn => ?_) (fun D ys H4 hD e hy hp => ?_)
      · have hri : res[i]? = some res[i] := List.getElem?_eq_getElem (by omega)
        refine yes_go rfl ?_
        refine ⟨.ref fdA, rfl, _, rfl, fdA, VI res[i], rfl, ?_, ?_⟩
        · have := DGet.k (k := Sum.inl ((i + 1 : Nat) : Int)) (e _ _ hFd)
          rw [hkv (i + 1), hrv i hi, hri] at this
          exact this
        · refine qy _ _ (Ex.refl _) rfl (fun p hp => ?_)
          rw [hri] at hp
          cases hp
          rfl
      · rw [filter_true, ← hrl] at hp
        have eR := paired_eq (f := VI) (paired_range (F := fun p y => y = VI p) hp)
        refine ⟨D, _, rfl, .inl ⟨.inl (.inl hy), fun ta hta => ?_⟩⟩
        exact q ta _ ((e3.trans e).trans (Ex.new hta)) (by rw [upd_same, eR])
def sp_Laid_digits (K : PySem.W.Frag) : Sp := fun vs H Q _ => ∃ (v : V) (hs : List Nat) (u d : Nat) (lost : List Nat), vs = [v] ∧ LaidAt K H v hs u d lost ∧ TreeOk hs ∧
  ∀ l ys H', H l = none → Ex H H' → H' l = some (.lst ys) → DigAt H' (digitsF (tops hs.length (kn hs u d lost)).length (every hs (kn hs u d lost) d lost) (lot hs (kn hs u d lost) d lost 0)) ys → Q (.ref l) H'
theorem ok_Laid_digits (T : Txt K mg) : Methd P w K mg base 1 (cLaid K) "digits" ["self"] (sp_Laid_digits K) := by
  refine methd_mk T.f_Laid_digits T.clLaid T.me_digits (fun fd F => ?_) (fun _ _ _ _ _ _ us hl => match us, hl with | [_], _ => rfl)
  refine F.ok sc_Laid_digits (fun vs H Q E h => ?_) (fun cdv A outer s H vs Q E hr h => ?_)
  · obtain ⟨v, hs, u, d, lost, rfl, _⟩ := h; rfl
  · obtain ⟨v, hs, u, d, lost, rfl, ⟨x, dx, t, pc, tl, ll, ev, lots, rfl, hX, hT, hP, hTl, hLl, hLots, hEv⟩, Tr, q⟩ := h
    have h40 := Tr.n40
    have k0 := kn0 Tr u d lost
    generalize kn hs u d lost = k at hT hP hTl hLots hEv q k0
    have hth := tops_head (n := hs.length) k0
    have tpl : (tops hs.length k).length ≤ hs.length + 1 := filter_range_len _ _
    refine ⟨_, (pss_cons (ps_set (i := 1) sc_Laid_digits.nd rfl (Or.inl rfl) (pe_callB call_len_seq (by rfl) T.n_len PySem.boot_len (pa_cons (pe_fld (pv 0) rfl) pa_nil)))
      (pss_one (ps_ret (pe_ifExp (pt_cmpR op_gt (pv 1) pe_int (nomark _)) (pe_op op_cat (pe_op op_rep (pe_lst (pa_cons (pe_fld (pv 0) rfl) pa_nil)) (pe_op op_sub (pv 1) pe_int)) (pe_lst (pa_cons (pe_ix ix_list (pe_fld (pv 0) rfl) pe_int (fun _ _ => rfl)) pa_nil))) (pe_lst pa_nil))))), ?_⟩
    refine ⟨_, rfl, x, cLaid K, dx, _, _, rfl, hX, T.clLaid, T.naLaid_tops, laid_tops .., tl, _, rfl, .inl (.inl (.inl hTl)), ?_⟩
    refine ⟨_, rfl, _, _, rfl, rfl, _, rfl, ite2 (fun h => ?_) (fun h => ?_)⟩
    · have h := of_decide_eq_true h
      rw [List.length_map] at h
      have h : 1 < (tops hs.length k).length := by omega
      have hl0 : (tops hs.length k)[0]? = some 0 := by rw [hth]; rfl
      obtain ⟨y0, hy0, a0, rfl, ha0⟩ := paired_get2 hLots hl0
      refine ⟨_, rfl, x, cLaid K, dx, _, _, rfl, hX, T.clLaid, T.naLaid_every, laid_every .., (by show 1 ≤ sizeLine; decide), fun l1 hl1 => ?_⟩
      have e1 := Ex.new (o := .lst [.ref ev]) hl1
      refine ⟨_, rfl, _, _, rfl, rfl, l1, _, [.ref ev], rfl, rfl, upd_same, by rw [List.length_map]; omega, by rw [List.length_map]; omega, sz_of ?_, fun l2 hl2 => ?_⟩
      · rw [List.length_map, List.length_singleton]; omega
      have ek : ((((vns (tops hs.length k)).length : Nat) : Int) - 2).toNat = (tops hs.length k).length - 2 := by rw [List.length_map]; omega
      rw [ek]
      have e2 := Ex.new (o := .lst (List.replicate ((tops hs.length k).length - 2) [V.ref ev]).flatten) hl2
      have e12 := e1.trans e2
      have hl22 : (upd (upd H l1 (.lst [.ref ev])) l2 (.lst (List.replicate ((tops hs.length k).length - 2) [V.ref ev]).flatten)) l2 = some (.lst (List.replicate ((tops hs.length k).length - 2) [V.ref ev]).flatten) := upd_same
      generalize upd (upd H l1 (.lst [.ref ev])) l2 (.lst (List.replicate ((tops hs.length k).length - 2) [V.ref ev]).flatten) = H2 at e12 hl22
      refine ⟨_, rfl, x, cLaid K, dx, _, _, rfl, e12 _ _ hX, T.clLaid, T.naLaid_lots, laid_lots .., ll, _, _, _, rfl, rfl, .inl (.inl (e12 _ _ hLl)), atI_nat (j := 0) hy0, (by show 1 ≤ sizeLine; decide), fun l3 hl3 => ?_⟩
      have e3 := Ex.new (o := .lst [.ref a0]) hl3
      refine ⟨l2, l3, _, _, rfl, rfl, e3 _ _ hl22, upd_same, sz_of ?_, fun l4 hl4 => ?_⟩
      · rw [rep_flat_len, List.length_singleton]; omega
      have e4 := Ex.new (o := .lst ((List.replicate ((tops hs.length k).length - 2) [V.ref ev]).flatten ++ [V.ref a0])) hl4
      have e14 := (e12.trans e3).trans e4
      have hl44 : (upd (upd H2 l3 (.lst [.ref a0])) l4 (.lst ((List.replicate ((tops hs.length k).length - 2) [V.ref ev]).flatten ++ [V.ref a0]))) l4 = some (.lst ((List.replicate ((tops hs.length k).length - 2) [V.ref ev]).flatten ++ [V.ref a0])) := upd_same
      have hf4 := fresh_back (e12.trans e3) hl4
      generalize upd (upd H2 l3 (.lst [.ref a0])) l4 (.lst ((List.replicate ((tops hs.length k).length - 2) [V.ref ev]).flatten ++ [V.ref a0])) = H4 at e14 hl44
      refine q l4 _ _ hf4 e14 hl44 ?_
      unfold digitsF
      rw [if_pos h]
      exact Paired.app (paired_rep (F := fun ds y => ∃ a, y = V.ref a ∧ H4 a = some (HO.tup (vns ds))) ⟨ev, rfl, e14 _ _ hEv⟩ _) (.cons ⟨a0, rfl, e14 _ _ ha0⟩ .nil)
    · have h : ¬ 1 < (tops hs.length k).length := fun z => h (decide_eq_true (by rw [List.length_map]; omega))
      refine ⟨Nat.zero_le _, fun l hl => ?_⟩
      refine q l _ _ hl (Ex.new hl) upd_same ?_
      unfold digitsF
      rw [if_neg h]
      exact .nil
end
end Fv
end
section
/-! laid, many_trees, always -/
namespace Fv
open PySem PySem.Spec PyProof.Rows L2 Evl
theorem lists_lay : ∀ l : List (List Nat), PyData.canLayAll0 (l.map fun w => PyData.list (intsD w)) = true
  | [] => by simp only [List.map_nil, PyData.canLayAll0]
  | n :: r => by
    have h := lists_lay r
    simp only [List.map_cons, PyData.canLayAll0, PyData.canLay0, intsD_lay, Bool.true_and] at h ⊢
    exact h
theorem lists_depth : ∀ l : List (List Nat), PyData.depthAll (l.map fun w => PyData.list (intsD w)) ≤ 4
  | [] => by simp only [List.map_nil, PyData.depthAll]; omega
  | n :: r => by
    have h := lists_depth r
    have h2 := intsD_depth n
    simp only [List.map_cons, PyData.depthAll, PyData.depth] at h ⊢
    omega
theorem lists_shaped (l : List (List Nat)) : SeqAt.shaped (.list (l.map fun w => PyData.list (intsD w))) = true := by
  show ((PyData.list (l.map fun w => PyData.list (intsD w))).canLay0 && decide ((PyData.list (l.map fun w => PyData.list (intsD w))).depth ≤ 64)) = true
  rw [Bool.and_eq_true]
  refine ⟨?_, decide_eq_true ?_⟩
  · simp only [PyData.canLay0, lists_lay]
  · have h := lists_depth l
    simp only [PyData.depth]
    omega
theorem lists_none (l : List (List Nat)) : (l.map fun w => PyData.list (intsD w)).any (fun z => PyData.eqv z PyData.none) = false := by
  rw [List.any_eq_false]
  intro x hx
  obtain ⟨w, _, rfl⟩ := List.mem_map.mp hx
  simp [PyData.eqv]
theorem dp_lists {K : PySem.W.Frag} {H : Hp} {f : Nat → List Nat} : ∀ {l : List Nat} {ys : List V}, Paired (fun (p : Nat) (y : V) => ∃ a, y = .ref a ∧ H a = some (.lst (vns (f p)))) l ys → DpAll K H ys ((l.map f).map fun w => PyData.list (intsD w))
  | _, _, .nil => .nil
  | _, _, .cons ⟨a, h1, h2⟩ r => by
    rw [List.map_cons, List.map_cons, h1]
    exact .cons (.lst (.inl (.inl h2)) (dp_ints _)) (dp_lists r)
theorem firstF_ok {hs : List Nat} {u d : Nat} {lost first : List Nat} (h : firstF hs u d lost = some first) :
    ¬ (1 < (tops hs.length (kn hs u d lost)).length ∧ lot hs (kn hs u d lost) d lost 0 = []) ∧
    ∃ fnd, hungLoop (topp hs (kn hs u d lost)) ((digitsF (tops hs.length (kn hs u d lost)).length (every hs (kn hs u d lost) d lost) (lot hs (kn hs u d lost) d lost 0)).map fun l => l.headD 0) (tops hs.length (kn hs u d lost)).tail (fun b => if kn hs u d lost b = true then some (par hs b) else none) = some fnd ∧ resF fnd hs.length = some first := by
  unfold firstF at h
  dsimp only at h
  split at h
  · cases h
  · rename_i hc
    refine ⟨hc, ?_⟩
    split at h
    · cases h
    · rename_i fnd hf
      exact ⟨fnd, hf, h⟩
theorem every_le {hs : List Nat} {k : Nat → Bool} {d : Nat} {lost : List Nat} {p : Nat} (h : p ∈ every hs k d lost) : p ≤ hs.length := by
  unfold every at h
  rw [List.mem_filter, List.mem_range] at h
  omega
theorem lot_every {hs : List Nat} {k : Nat → Bool} {d : Nat} {lost : List Nat} {p t : Nat} (h : p ∈ lot hs k d lost t) : p ∈ every hs k d lost := (List.mem_filter.mp h).1
theorem dig_mem {c : Nat} {ev l0 ds : List Nat} (h : ds ∈ digitsF c ev l0) : 1 < c ∧ (ds = ev ∨ ds = l0) := by
  unfold digitsF at h
  split at h
  · rename_i hc
    refine ⟨hc, ?_⟩
    rcases List.mem_append.mp h with h | h
    · exact .inl (List.eq_of_mem_replicate h)
    · exact .inr (List.mem_singleton.mp h)
  · cases h
theorem dig_len {c : Nat} {ev l0 : List Nat} : (digitsF c ev l0).length ≤ c := by
  unfold digitsF
  split
  · rw [List.length_append, List.length_replicate, List.length_singleton]; omega
  · exact Nat.zero_le _
theorem head_at {ds : List Nat} (h : ds ≠ []) : (vns ds)[0]? = some (VI (ds.headD 0)) ∧ ds.headD 0 ∈ ds := by
  cases ds with
  | nil => exact absurd rfl h
  | cons a r => exact ⟨rfl, List.mem_cons_self ..⟩
structure FitOk (hs : List Nat) (u d : Nat) (lost first : List Nat) : Prop where
  eq : firstF hs u d lost = some first
  tree : TreeOk first
  len : first.length = hs.length
  fit : ∀ p ∈ places hs.length lost, tel first u d p = tel hs u d p
section
variable {P : Program} {w : World} {K : PySem.W.Frag} {mg : Str → Option Value} {base : Heap}
def sp_laid_or_none (K : PySem.W.Frag) : Sp := fun vs H Q _ => ∃ (v : V) (hs : List Nat) (u d : Nat) (lost first : List Nat), vs = [v] ∧ PicAt K H v hs u d lost ∧ TreeOk hs ∧ d ≤ 4 ∧ FitOk hs u d lost first ∧ ∀ a H', Ex H H' → LaidAt K H' (.ref a) hs u d lost → Q (.ref a) H'
theorem ok_laid_or_none (T : Txt K mg) : Callee P w K mg base 5 "laid_or_none" ["picture"] (sp_laid_or_none K) := by
  refine callee_mk T.f_laid_or_none T.g_laid_or_none (fun fd F => ?_) (fun _ _ _ _ _ _ us hl => match us, hl with | [_], _ => rfl)
  refine F.ok sc_laid_or_none (fun vs H Q E h => ?_) (fun cdv A outer s H vs Q E hr h => ?_)
  · obtain ⟨v, hs, u, d, lost, first, rfl, _⟩ := h; rfl
  · obtain ⟨v, hs, u, d, lost, first, rfl, hPic, Tr, hd4, hFit, q⟩ := h
    have hu := hu_of hr
    have h40 := Tr.n40
    have k0 := kn0 Tr u d lost
    obtain ⟨hc, fnd, hloop, hres⟩ := firstF_ok hFit.eq
    obtain ⟨x, dx, va, t, kvs, rfl, hX, hV, hT, hK⟩ := id hPic
    refine ⟨_, (pss_cons (ps_set (i := 1) sc_laid_or_none.nd rfl (Or.inr rfl) (pe_cal (ok_ties_known T) (hr.mono (by decide)) (by rfl) (pa_cons (pv 0) pa_nil)))
      (pss_cons (ps_if (pt_cmpR op_isN (pv 1) pe_non (nomark _)) (pss_one (ps_ret pe_non)) pss_nil)
      (pss_cons (ps_setLc (i := 2) (own := [("place", 5)]) (g := (gName 5)) (tt := tYes) (by rfl) sc_laid_or_none.nd rfl rfl (sw_true rfl rfl rfl (by decide +kernel)) (pi_range1 (by rfl) T.n_range (pa_cons (pe_op op_add (pe_fld (pv 0) rfl) pe_int) pa_nil)) (blkOk_by (own := [("place", 5)]) (N := N_laid_or_none) (sc := defScope s_laid_or_none) (by decide +kernel)) (fun _ _ _ _ _ => (pg_name (i := 5) sc_laid_or_none.nd rfl (Or.inl rfl))) (fun _ _ _ _ _ => pts_nil) (fun _ _ _ _ _ => (pe_cal (ok_way_up T) (hr.mono (by decide)) (by rfl) (pa_cons (pv 1) (pa_cons (pv 5) (pa_cons (pe_fld_K K (pv 0) rfl) pa_nil))))))
      (pss_cons (ps_if (pt_cmpR (op_inD (hu65 hr)) pe_non (pv 2) (by rfl)) (pss_one (ps_ret pe_non)) pss_nil)
      (pss_cons (ps_set (i := 3) sc_laid_or_none.nd rfl (Or.inl rfl) (pe_mk (ok_Laid_init T) (hr.mono (by decide)) (by rfl) (pa_cons (pv 0) (pa_cons (pv 1) (pa_cons (pv 2) pa_nil)))))
      (pss_cons (ps_if (PW.pt (pw_and (pt_cmpR op_gt (pe_callB call_len_seq (by rfl) T.n_len PySem.boot_len (pa_cons (pe_fld (pv 3) rfl) pa_nil)) pe_int (nomark _)) (pw_and1 (pt_cmpR op_eq (pe_callB call_len_seq (by rfl) T.n_len PySem.boot_len (pa_cons (pe_ix ix_list (pe_fld (pv 3) rfl) pe_int (fun _ _ => rfl)) pa_nil)) pe_int (nomark _))))) (pss_one (ps_ret pe_non)) pss_nil)
      (pss_cons (ps_set (i := 4) sc_laid_or_none.nd rfl (Or.inl rfl) (pe_meM (ok_Laid_hung_by T) (hr.mono (by decide)) (pv 3) (pa_cons (pe_lc (own := [("lot", 6)]) (g := (gName 6)) (tt := tYes) (by rfl) sc_laid_or_none.nd (pi_list (pe_meM0 (ok_Laid_digits T) (hr.mono (by decide)) (pv 3))) (blkOk_by (own := [("lot", 6)]) (N := N_laid_or_none) (sc := defScope s_laid_or_none) (by decide +kernel)) (fun _ _ _ _ _ => (pg_name (i := 6) sc_laid_or_none.nd rfl (Or.inl rfl))) (fun _ _ _ _ _ => pts_nil) (fun _ _ _ _ _ => (pe_ix (ix_tup_K K) (pv 6) pe_int (fun _ _ => rfl)))) pa_nil)))
      (pss_one (ps_ret (pe_ifExp (pt_val (pe_cal (ok_does_fit T) (hr.mono (by decide)) (by rfl) (pa_cons (pv 0) (pa_cons (pv 4) pa_nil)))) (pv 3) pe_non)))))))))), ?_⟩
    refine ⟨_, rfl, _, hs, u, d, lost, rfl, hPic, Tr, fun ta H1 e1 hTies => ?_⟩
    refine ⟨_, rfl, rfl, _, rfl, ?_⟩
    rw [show decide (V.ref ta = V.non) = false from rfl]
    refine iteF ?_
    -- ways
    refine ⟨_, rfl, x, cPic K, dx, _, _, rfl, e1 _ _ hX, T.clPicture, T.naPicture_blocks, pic_blocks _ _ _, _, _, rfl, rfl, _, rfl, by omega, by omega, ?_⟩
    refine lcR0 (n := hs.length + 1) (by omega) (f := fun _ => true) (E := fun i y H => ∃ l, y = .ref l ∧ H l = some (.lst (vns (way hs (kn hs u d lost) i)))) (fun i y H H' e ⟨l, h1, h2⟩ => ⟨l, h1, e _ _ h2⟩) (by omega) (fun D i H' hD e hys hi Qy Qn qy qn => ?_) (fun wl ws H2 hwl e2 hy2 hp2 => ?_)
    · obtain ⟨zs, hys⟩ := hys
      have e0 := e1.trans e
      refine yes_go rfl ?_
      refine ⟨_, rfl, _, rfl, _, rfl, x, cPic K, dx, _, _, rfl, e0 _ _ hX, T.clPicture, T.naPicture_blocks, pic_blocks _ _ _, ta, hs, kn hs u d lost, i, rfl, hTies.mono e, Tr, k0, by omega, fun l H4 hl e4 hL => ?_⟩
      refine qy _ _ e4 rfl ⟨l, rfl, ?_⟩
      rw [del_ne (ne_of_none hys hl).symm]
      exact hL
    rw [filter_true] at hp2
    have hW2 : WaysAt H2 hs (kn hs u d lost) ws := paired_imp hp2 fun _ _ _ ⟨l, h1, h2⟩ => ⟨l, h1, ex_del _ _ h2⟩
    have e12 := e1.trans e2
    refine ⟨_, rfl, .none, _, .non, .lst (.inl (.inl hy2)) (dp_lists hW2), rfl, lists_shaped _, _, rfl, ?_⟩
    rw [lists_none]
    refine iteF ?_
    refine ⟨_, rfl, _, rfl, _, rfl, ?_⟩
    intro p pdx np ndp nep
    have e3 : Ex H2 (upd (upd H2 pdx (.own p)) p (.ins (cLaid K) pdx [])) := fun b o hb => by
      rw [upd_ne (ne_of_none hb np), upd_ne (ne_of_none hb ndp)]
      exact hb
    refine ⟨H2, p, pdx, ta, wl, .ref x, ws, hs, u, d, lost, rfl, e3, np, upd_same, hPic.mono e12, Tr, hTies.mono e2, hy2, hW2, fun H4 e4 hLaid => ⟨rfl, ?_⟩⟩
    have e14 := e12.trans e4
    obtain ⟨p', ldx, lt, pc, tl, ll, ev, lots, hpp, hP4, hT4, hPc4, hTl4, hLl4, hLots4, hEv4⟩ := id hLaid
    cases hpp
    have hth := tops_head (n := hs.length) k0
    have hl0 : (tops hs.length (kn hs u d lost))[0]? = some 0 := by rw [hth]; rfl
    obtain ⟨y0, hy0, a0, rfl, ha0⟩ := paired_get2 hLots4 hl0
    have tpl : (tops hs.length (kn hs u d lost)).length ≤ hs.length + 1 := filter_range_len _ _
    refine ⟨_, rfl, p, cLaid K, ldx, _, _, rfl, hP4, T.clLaid, T.naLaid_tops, laid_tops .., tl, _, rfl, .inl (.inl (.inl hTl4)), _, _, rfl, rfl, _, rfl, ?_⟩
    have key : ∀ H5, Ex H4 H5 → tSeq (tAsg (tMeth (cLaid K) "hung_by" (sp_Laid_hung_by K) [] E0 (tVar 3) (tCons (tLc (iList K (tMeth (cLaid K) "digits" (sp_Laid_digits K) [] E0 (tVar 3) tNil)) (gName 6) tYes (tOp (rIxT K) (tVar 6) (tC (.int 0))) [6]) tNil)) (gName 4))
        (tRet (tIf (tB (tCall (sp_does_fit K) [] E0 (tCons (tVar 0) (tCons (tVar 4) tNil)))) (tVar 3) (tC .non))) { nx := fun _ H' => Q .non H', rt := Q }
        [some (.ref x), some (.ref ta), some (.ref wl), some (.ref p), none, none, none] H5 := by
      intro H5 e5
      have hL5 := hLaid.mono e5
      refine ⟨_, rfl, p, ldx, _, rfl, e5 _ _ hP4, laid_no _ _ _ _ _ _ (by decide +kernel) (by decide +kernel) (by decide +kernel) (by decide +kernel) (by decide +kernel) (by decide +kernel), ?_⟩
      refine ⟨_, rfl, p, ldx, _, rfl, e5 _ _ hP4, laid_no _ _ _ _ _ _ (by decide +kernel) (by decide +kernel) (by decide +kernel) (by decide +kernel) (by decide +kernel) (by decide +kernel), ?_⟩
      refine ⟨.ref p, hs, u, d, lost, rfl, hL5, Tr, fun dl dys H6 hdl e6 hdl6 hDig => ?_⟩
      refine ⟨dl, rfl, ⟨_, .inl (.inl hdl6)⟩, ?_⟩
      have dgl := @dig_len (tops hs.length (kn hs u d lost)).length (every hs (kn hs u d lost) d lost) (lot hs (kn hs u d lost) d lost 0)
      have hne : ∀ ds ∈ digitsF (tops hs.length (kn hs u d lost)).length (every hs (kn hs u d lost) d lost) (lot hs (kn hs u d lost) d lost 0), ds ≠ [] ∧ ∀ p ∈ ds, p ≤ hs.length := fun ds hds => by
        obtain ⟨h1, h2⟩ := dig_mem hds
        have hl : lot hs (kn hs u d lost) d lost 0 ≠ [] := fun z => hc ⟨h1, z⟩
        rcases h2 with rfl | rfl
        · refine ⟨fun z => ?_, fun p hp => every_le hp⟩
          obtain ⟨y, hy⟩ := List.exists_mem_of_ne_nil _ hl
          have := lot_every hy
          rw [z] at this
          cases this
        · exact ⟨hl, fun p hp => every_le (lot_every hp)⟩
      have hlen := paired_len hDig
      refine lcL (K := K) (xs := dys) (.inl (.inl hdl6)) (f := fun _ => true) (E := fun i y _ => ∀ ds, (digitsF (tops hs.length (kn hs u d lost)).length (every hs (kn hs u d lost) d lost) (lot hs (kn hs u d lost) d lost 0))[i]? = some ds → y = VI (ds.headD 0)) (fun i y H H' e h => h) (by omega) (fun D i z H' hD e hys hz Qy Qn qy qn => ?_) (fun na nys H7 hna e7 hy7 hp7 => ?_)
      · obtain ⟨ds, hds, ad, rfl, had⟩ := paired_at hDig hz
        have hn := hne ds (List.mem_of_getElem? hds)
        refine yes_go rfl ?_
        refine ⟨_, rfl, ad, _, _, _, rfl, rfl, .inl (.inl (e _ _ had)), atI_nat (j := 0) (head_at hn.1).1, ?_⟩
        refine qy _ _ (Ex.refl _) rfl (fun ds' h' => ?_)
        rw [hds] at h'
        cases h'
        rfl
      rw [filter_true, ← hlen] at hp7
      have eN : nys = vns ((digitsF (tops hs.length (kn hs u d lost)).length (every hs (kn hs u d lost) d lost) (lot hs (kn hs u d lost) d lost 0)).map fun l => l.headD 0) := by
        rw [paired_eq (f := fun ds : List Nat => VI (ds.headD 0)) (paired_range (F := fun (ds : List Nat) y => y = VI (ds.headD 0)) hp7)]
        show _ = List.map VI (List.map _ _)
        rw [List.map_map]
        rfl
      have e57 := e6.trans e7
      refine ⟨.ref p, na, _, hs, u, d, lost, fnd, first, rfl, hL5.mono e57, Tr, by rw [hy7, eN], ?_, ?_, hloop, hres, fun fa H8 e8 hF8 => ?_⟩
      · rw [List.length_map]; omega
      · intro p hp
        obtain ⟨ds, hds, rfl⟩ := List.mem_map.mp hp
        have hn := hne ds hds
        exact hn.2 _ (head_at hn.1).2
      have e48 := e5.trans (e57.trans e8)
      refine ⟨_, rfl, _, rfl, .ref x, fa, hs, first, u, d, lost, rfl, hPic.mono (e14.trans e48), .inl (.inl hF8), Tr, hFit.tree, hFit.len, hd4, hFit.fit, fun H9 e9 => ⟨true, rfl, iteT ?_⟩⟩
      exact ⟨_, rfl, q p H9 ((e14.trans e48).trans e9) (hLaid.mono (e48.trans e9))⟩
    refine ite2 (fun h1 => ?_) (fun h1 => ?_)
    · have h1 := of_decide_eq_true h1
      rw [List.length_map] at h1
      have hl : lot hs (kn hs u d lost) d lost 0 ≠ [] := fun z => hc ⟨by omega, z⟩
      refine ⟨_, rfl, p, cLaid K, ldx, _, _, rfl, hP4, T.clLaid, T.naLaid_lots, laid_lots .., ll, _, _, _, rfl, rfl, .inl (.inl hLl4), atI_nat (j := 0) hy0, a0, _, rfl, .inr (.inl (.inl ha0)), rfl, _, rfl, ?_⟩
      have ed : decide (V.int (((vns (lot hs (kn hs u d lost) d lost 0)).length : Nat) : Int) = V.int 0) = false := by
        rw [show (V.int 0) = V.int ((0 : Nat) : Int) from rfl, dec_vI, List.length_map]
        refine decide_eq_false fun z => hl (List.length_eq_zero_iff.mp z)
      rw [ed]
      exact iteF (key H4 (Ex.refl _))
    · exact key H4 (Ex.refl _)
def sp_laid (K : PySem.W.Frag) : Sp := fun vs H Q _ => ∃ (v : V) (hs : List Nat) (u d : Nat) (lost first : List Nat), vs = [v] ∧ PicAt K H v hs u d lost ∧ TreeOk hs ∧ d ≤ 4 ∧ FitOk hs u d lost first ∧ ∀ a H', Ex H H' → LaidAt K H' (.ref a) hs u d lost → Q (.ref a) H'
theorem ok_laid (T : Txt K mg) : Callee P w K mg base 6 "laid" ["picture"] (sp_laid K) := by
  refine callee_mk T.f_laid T.g_laid (fun fd F => ?_) (fun _ _ _ _ _ _ us hl => match us, hl with | [_], _ => rfl)
  refine F.ok sc_laid (fun vs H Q E h => ?_) (fun cdv A outer s H vs Q E hr h => ?_)
  · obtain ⟨v, hs, u, d, lost, first, rfl, _⟩ := h; rfl
  · obtain ⟨v, hs, u, d, lost, first, rfl, hPic, Tr, hd4, hFit, q⟩ := h
    refine ⟨_, (pss_cons (ps_set (i := 1) sc_laid.nd rfl (Or.inl rfl) (pe_cal (ok_laid_or_none T) (hr.mono (by decide)) (by rfl) (pa_cons (pv 0) pa_nil)))
      (pss_cons (ps_if (pt_cmpR op_isN (pv 1) pe_non (nomark _)) (pss_one ps_never) pss_nil)
      (pss_one (ps_ret (pv 1))))), ?_⟩
    refine ⟨_, rfl, v, hs, u, d, lost, first, rfl, hPic, Tr, hd4, hFit, fun a H1 e1 hL => ?_⟩
    refine ⟨_, rfl, rfl, _, rfl, ?_⟩
    rw [show decide (V.ref a = V.non) = false from rfl]
    exact iteF ⟨_, rfl, q a H1 e1 hL⟩
def sp_many_trees (K : PySem.W.Frag) : Sp := fun vs H Q _ => ∃ (v : V) (hs : List Nat) (u d : Nat) (lost : List Nat) (m : Nat), vs = [v] ∧ PicAt K H v hs u d lost ∧ TreeOk hs ∧ d ≤ 4 ∧ leftF hs u d lost = some m ∧ ∀ H', Ex H H' → Q (VI m) H'
theorem leftF_ok {hs : List Nat} {u d : Nat} {lost : List Nat} {m : Nat} (h : leftF hs u d lost = some m) : ∃ first, FitOk hs u d lost first ∧ m = manyF (tops hs.length (kn hs u d lost)).length (lot hs (kn hs u d lost) d lost 0).length (every hs (kn hs u d lost) d lost).length := by
  unfold leftF at h
  split at h
  · cases h
  · rename_i first hf
    split at h
    · rename_i hc
      obtain ⟨h1, h2, h3⟩ := hc
      refine ⟨first, ⟨hf, treeB_ok h1, h2, fun p hp => of_decide_eq_true (List.all_eq_true.mp h3 p hp)⟩, (Option.some.inj h).symm⟩
    · cases h
theorem ok_many_trees (T : Txt K mg) : Callee P w K mg base 7 "many_trees" ["picture"] (sp_many_trees K) := by
  refine callee_mk T.f_many_trees T.g_many_trees (fun fd F => ?_) (fun _ _ _ _ _ _ us hl => match us, hl with | [_], _ => rfl)
  refine F.ok sc_many_trees (fun vs H Q E h => ?_) (fun cdv A outer s H vs Q E hr h => ?_)
  · obtain ⟨v, hs, u, d, lost, m, rfl, _⟩ := h; rfl
  · obtain ⟨v, hs, u, d, lost, m, rfl, hPic, Tr, hd4, hm, q⟩ := h
    obtain ⟨first, hFit, rfl⟩ := leftF_ok hm
    refine ⟨_, (pss_one (ps_ret (pe_meM0 (ok_Laid_many T) (hr.mono (by decide)) (pe_cal (ok_laid T) (hr.mono (by decide)) (by rfl) (pa_cons (pv 0) pa_nil))))), ?_⟩
    refine ⟨_, rfl, v, hs, u, d, lost, first, rfl, hPic, Tr, hd4, hFit, fun a H1 e1 hL => ?_⟩
    obtain ⟨p', ldx, lt, pc, tl, ll, ev, lots, hpp, hP4, _⟩ := id hL
    cases hpp
    refine ⟨a, ldx, _, rfl, hP4, laid_no _ _ _ _ _ _ (by decide +kernel) (by decide +kernel) (by decide +kernel) (by decide +kernel) (by decide +kernel) (by decide +kernel), ?_⟩
    exact ⟨.ref a, hs, u, d, lost, rfl, hL, Tr, fun H2 e2 => q H2 (e1.trans e2)⟩
def sp_always (K : PySem.W.Frag) : Sp := fun vs H Q _ => ∃ (a : Addr) (u d : Nat), vs = [.ref a] ∧ SqT K H a [VI u, VI d] ∧ u ≤ 4 ∧ d ≤ 4 ∧ (distF u d = 0 → ∀ H', Ex H H' → Q .non H') ∧ (distF u d ≠ 0 → ∀ p H', Ex H H' → H' p = some (.tup [VI (distF u d - 1), VI ((distF u d - 1) / 2)]) → Q (.ref p) H')
theorem ok_always (T : Txt K mg) : Callee P w K mg base 5 "always" ["view"] (sp_always K) := by
  refine callee_mk T.f_always T.g_always (fun fd F => ?_) (fun _ _ _ _ _ _ us hl => match us, hl with | [_], _ => rfl)
  refine F.ok sc_always (fun vs H Q E h => ?_) (fun cdv A outer s H vs Q E hr h => ?_)
  · obtain ⟨a, u, d, rfl, _⟩ := h; rfl
  · obtain ⟨a, u, d, rfl, hV, hu4, hd4, q0, q1⟩ := h
    refine ⟨_, (pss_cons (ps_expr (pe_cal (ok_check_view T) (hr.mono (by decide)) (by rfl) (pa_cons (pv 0) pa_nil)))
      (pss_cons (ps_set (i := 1) sc_always.nd rfl (Or.inl rfl) (pe_op op_sub (pe_cal (ok_raw_distance T) (hr.mono (by decide)) (by rfl) (pa_cons (pv 0) pa_nil)) pe_int))
      (pss_one (ps_ret (pe_ifExp (pt_cmpR op_ge (pv 1) pe_int (nomark _)) (pe_tup (pa_cons (pv 1) (pa_cons (pe_op op_fdiv (pv 1) pe_int) pa_nil))) pe_non))))), ?_⟩
    refine ⟨_, rfl, a, u, d, rfl, hV, hu4, hd4, fun H1 e1 => ?_⟩
    refine ⟨_, rfl, a, u, d, rfl, ex_t e1 hV, fun H2 e2 => ?_⟩
    refine ⟨_, _, rfl, rfl, ?_⟩
    refine ⟨_, rfl, _, _, rfl, rfl, _, rfl, ite2 (fun h => ?_) (fun h => ?_)⟩
    · have h := of_decide_eq_true h
      have hd : distF u d ≠ 0 := by omega
      refine ⟨_, rfl, _, rfl, _, _, rfl, rfl, ⟨by decide, by decide⟩, (by show 2 ≤ sizeLine; decide), fun p hp => ?_⟩
      refine q1 hd p _ ((e1.trans e2).trans (Ex.new hp)) ?_
      rw [upd_same]
      have e3 : ((distF u d : Nat) : Int) - 1 = ((distF u d - 1 : Nat) : Int) := by omega
      have e4 : ((distF u d - 1 : Nat) : Int) / 2 = (((distF u d - 1) / 2 : Nat) : Int) := by omega
      show some (HO.tup [V.int (((distF u d : Nat) : Int) - 1), V.int ((((distF u d : Nat) : Int) - 1) / 2)]) = _
      rw [e3, e4]
    · have h : ¬ (0 : Int) ≤ ((distF u d : Nat) : Int) - 1 := fun z => h (decide_eq_true z)
      exact q0 (by omega) H2 (e1.trans e2)
def sp_law_left (K : PySem.W.Frag) : Sp := fun vs H Q _ => ∃ (a va la : Addr) (hs : List Nat) (u d : Nat) (lost : List Nat) (m : Nat), vs = [.ref a, .ref va, .ref la] ∧ SqT K H a (vns hs) ∧ TreeOk hs ∧ SqT K H va [VI u, VI d] ∧ u ≤ 4 ∧ d ≤ 4 ∧ SqT K H la (vns lost) ∧ lost.Pairwise (· < ·) ∧ lost.length ≤ 1000 ∧ (∀ n ∈ lost, 1 ≤ n ∧ n ≤ hs.length) ∧
  leftF hs u d lost = some m ∧ ∀ H', Ex H H' → Q (VI m) H'
theorem ok_law_left (T : Txt K mg) : Callee P w K mg base 8 "_law_left" ["_law_hung", "_law_view_here", "_law_lot_here"] (sp_law_left K) := by
  refine callee_mk T.f_law_left T.g_law_left (fun fd F => ?_) (fun _ _ _ _ _ _ us hl => match us, hl with | [_, _, _], _ => rfl)
  refine F.ok sc_law_left (fun vs H Q E h => ?_) (fun cdv A outer s H vs Q E hr h => ?_)
  · obtain ⟨a, va, la, hs, u, d, lost, m, rfl, _⟩ := h; rfl
  · obtain ⟨a, va, la, hs, u, d, lost, m, rfl, hA, Tr, hV, hu4, hd4, hL, hw, hl, hlb, hm, q⟩ := h
    refine ⟨_, (pss_one (ps_ret (pe_cal (ok_many_trees T) (hr.mono (by decide)) (by rfl) (pa_cons (pe_cal (ok_seen T) (hr.mono (by decide)) (by rfl) (pa_cons (pe_mk (ok_Tree_init T) (hr.mono (by decide)) (by rfl) (pa_cons (pv 0) pa_nil)) (pa_cons (pv 1) (pa_cons (pv 2) pa_nil)))) pa_nil)))), ?_⟩
    refine ⟨_, rfl, ?_⟩
    intro x dx nx ndx nex
    have e1 : Ex H (upd (upd H dx (.own x)) x (.ins (cTree K) dx [])) := fun b o hb => by
      rw [upd_ne (ne_of_none hb nx), upd_ne (ne_of_none hb ndx)]
      exact hb
    refine ⟨x, dx, a, hs, rfl, upd_same, ex_t e1 hA, Tr, fun H2 e2 hx => ⟨rfl, ?_⟩⟩
    have e02 : Ex H H2 := fun b o hb => e2 b o (ne_of_none hb nx) (e1 b o hb)
    refine ⟨_, rfl, _, rfl, .ref x, va, la, hs, u, d, lost, rfl, ⟨x, dx, a, rfl, hx, ex_t e02 hA⟩, Tr, ex_t e02 hV, hu4, hd4, ex_t e02 hL, hw, hl, hlb, fun pv H3 e3 hPic => ?_⟩
    exact ⟨pv, hs, u, d, lost, m, rfl, hPic, Tr, hd4, hm, fun H4 e4 => q H4 ((e02.trans e3).trans e4)⟩
end
end Fv
end
section
/-! the law's own hand, draws -/
namespace Fv
open PySem PySem.Spec PyProof.Rows L2 Evl
def HandAt (H : Hp) (h c : Addr) : Prop := c ≠ h ∧ ∃ (cs : List Int) (i tape seed cnt : Int), H h = some (.lst [.ref c, .int i, .int tape, .int seed, .int cnt]) ∧ H c = some (.lst (cs.map V.int)) ∧ 0 ≤ i
theorem HandAt.mono {H H' : Hp} {h c : Addr} (e : Ex H H') (a : HandAt H h c) : HandAt H' h c := by
  obtain ⟨h4, cs, i, tape, seed, cnt, h1, h2, h3⟩ := a
  exact ⟨h4, cs, i, tape, seed, cnt, e _ _ h1, e _ _ h2, h3⟩
theorem HandAt.upd {H : Hp} {h c a : Addr} {o : HO} (x : HandAt H h c) (n1 : a ≠ h) (n2 : a ≠ c) : HandAt (upd H a o) h c := by
  obtain ⟨h4, cs, i, tape, seed, cnt, h1, h2, h3⟩ := x
  exact ⟨h4, cs, i, tape, seed, cnt, by rw [upd_ne n1.symm]; exact h1, by rw [upd_ne n2.symm]; exact h2, h3⟩
theorem nat_mod (x : Int) {m : Nat} (h : 0 < m) : ∃ d : Nat, d < m ∧ x % (m : Int) = (d : Int) := by
  have h1 := Int.emod_nonneg x (show (m : Int) ≠ 0 by omega)
  have h2 := Int.emod_lt_of_pos x (show (0 : Int) < (m : Int) by omega)
  exact ⟨(x % (m : Int)).toNat, by omega, by omega⟩
/-- what stood, but for the hand -/
theorem exd {H H' : Hp} {h : Addr} {b : Addr} {o : HO} (e : Ex (del H h) H') (hb : H b = some o) (n : b ≠ h) : H' b = some o := e b o (by rw [del_ne n]; exact hb)
theorem exd_seqT {K : PySem.W.Frag} {H H' : Hp} {h : Addr} {a : Addr} {xs ys : List V} (e : Ex (del H h) H') (hh : H h = some (.lst ys)) (ha : SqT K H a xs) : SqT K H' a xs := by
  rcases ha with (ha | ⟨o, ha⟩) | ha
  · exact .inl (.inl (exd e ha (ne_of ha hh (by intro z; cases z))))
  · exact .inl (.inr ⟨o, exd e ha (ne_of ha hh (by intro z; cases z))⟩)
  · exact .inr ha
theorem HandAt.lst {H : Hp} {h c : Addr} (a : HandAt H h c) : ∃ ys, H h = some (.lst ys) := let ⟨_, _, _, _, _, _, h1, _⟩ := a; ⟨_, h1⟩
theorem HandAt.cell {H : Hp} {h c : Addr} (a : HandAt H h c) : ∃ ys, (del H h) c = some (.lst ys) := let ⟨n, _, _, _, _, _, _, h2, _⟩ := a; ⟨_, by rw [del_ne n]; exact h2⟩
section
variable {P : Program} {w : World} {K : PySem.W.Frag} {mg : Str → Option Value} {base : Heap}
def sp_law_draw : Sp := fun vs H Q _ => ∃ (h c : Addr) (m : Nat), vs = [.ref h, VI m] ∧ 0 < m ∧ m ≤ 1000 ∧ HandAt H h c ∧ ∀ (d : Nat) H', d < m → Ex (del H h) H' → HandAt H' h c → Q (VI d) H'
theorem ok_law_draw (T : Txt K mg) : Callee P w K mg base 1 "_law_draw" ["_law_hand_here", "_law_many"] sp_law_draw := by
  refine callee_mk T.f_law_draw T.g_law_draw (fun fd F => ?_) (fun _ _ _ _ _ _ us hl => match us, hl with | [_, _], _ => rfl)
  refine F.ok sc_law_draw (fun vs H Q E h => ?_) (fun cdv A outer s H vs Q E hr h => ?_)
  · obtain ⟨h, c, m, rfl, _⟩ := h; rfl
  · obtain ⟨h, c, m, rfl, hm0, hm1, ⟨nch, cs, i, tape, seed, cnt, hH, hC, hi⟩, q⟩ := h
    have hB : (del H h) h = none := del_same
    have eB : Ex (del H h) H := ex_del
    have hCB : (del H h) c = some (.lst (cs.map V.int)) := by rw [del_ne nch]; exact hC
    generalize del H h = B at hB eB hCB q
    refine ⟨_, (pss_cut (ps_if (PW.pt (pw_and (pt_cmpR op_eq (pe_ix ix_list (pv 0) pe_int (fun _ _ => rfl)) pe_int (nomark _)) (pw_and1 (pt_cmpR op_lt (pe_ix ix_list (pv 0) pe_int (fun _ _ => rfl)) (pe_callB call_len_seq (by rfl) T.n_len PySem.boot_len (pa_cons (pe_ix ix_list (pv 0) pe_int (fun _ _ => rfl)) pa_nil)) (nomark _))))) (pss_cons (ps_set (i := 2) sc_law_draw.nd rfl (Or.inl rfl) (pe_ix ix_list (pe_ix ix_list (pv 0) pe_int (fun _ _ => rfl)) (pe_ix ix_list (pv 0) pe_int (fun _ _ => rfl)) (fun _ _ => rfl)))
      (pss_cons (ps_asg (pe_op op_add (pe_ix ix_list (pv 0) pe_int (fun _ _ => rfl)) pe_int) (pg_sub (pv 0) pe_int set_list))
      (pss_cons (ps_asg (pe_op op_mod (pe_callTy call_int1 (by rfl) T.n_int (by decide +kernel) (pa_cons (pe_op op_add (pe_op op_add (pe_op op_mul (pe_ix ix_list (pv 0) pe_int (fun _ _ => rfl)) pe_int) (pv 2)) pe_int) pa_nil)) pe_int) (pg_sub (pv 0) pe_int set_list))
      (pss_one (ps_if (pt_cmpR op_ge (pv 2) (pe_op op_pow pe_int pe_int) (nomark _)) (pss_one (ps_asg (pv 2) (pg_sub (pv 0) pe_int set_list))) pss_nil))))) pss_nil)
      (pss_cons (ps_if (pt_cmpR op_gt (pe_ix ix_list (pv 0) pe_int (fun _ _ => rfl)) pe_int (nomark _)) (pss_cons (ps_set (i := 3) sc_law_draw.nd rfl (Or.inl rfl) (pe_op op_mod (pe_callTy call_int1 (by rfl) T.n_int (by decide +kernel) (pa_cons (pe_ix ix_list (pv 0) pe_int (fun _ _ => rfl)) pa_nil)) (pv 1)))
      (pss_cons (ps_asg (pe_op op_fdiv (pe_ix ix_list (pv 0) pe_int (fun _ _ => rfl)) (pv 1)) (pg_sub (pv 0) pe_int set_list))
      (pss_one (ps_ret (pv 3))))) pss_nil)
      (pss_cons (ps_asg (pe_op op_add (pe_ix ix_list (pv 0) pe_int (fun _ _ => rfl)) pe_int) (pg_sub (pv 0) pe_int set_list))
      (pss_cons (ps_set (i := 4) sc_law_draw.nd rfl (Or.inl rfl) (pe_op op_mod (pe_callTy call_int1 (by rfl) T.n_int (by decide +kernel) (pa_cons (pe_op op_mul (pe_callTy call_int1 (by rfl) T.n_int (by decide +kernel) (pa_cons (pe_op op_add (pe_ix ix_list (pv 0) pe_int (fun _ _ => rfl)) (pe_op op_mul pe_int (pe_ix ix_list (pv 0) pe_int (fun _ _ => rfl)))) pa_nil)) pe_int) pa_nil)) pe_int))
      (pss_cons (ps_set (i := 4) sc_law_draw.nd rfl (Or.inl rfl) (pe_op op_mod (pe_callTy call_int1 (by rfl) T.n_int (by decide +kernel) (pa_cons (pe_op op_mul (pv 4) (pe_op op_add (pe_op op_fdiv (pv 4) pe_int) pe_int)) pa_nil)) pe_int))
      (pss_cons (ps_set (i := 4) sc_law_draw.nd rfl (Or.inl rfl) (pe_op op_mod (pe_callTy call_int1 (by rfl) T.n_int (by decide +kernel) (pa_cons (pe_op op_mul (pv 4) (pe_op op_add (pe_op op_fdiv (pv 4) pe_int) pe_int)) pa_nil)) pe_int))
      (pss_one (ps_ret (pe_op op_mod (pe_callTy call_int1 (by rfl) T.n_int (by decide +kernel) (pa_cons (pe_op op_fdiv (pv 4) pe_int) pa_nil)) (pv 1)))))))))), ?_⟩
    refine ⟨fun σ' H' => ∃ (i tape seed cnt : Int) (y2 y3 y4 : Option V), σ' = [some (.ref h), some (VI m), y2, y3, y4] ∧ Ex B H' ∧ H' h = some (.lst [.ref c, .int i, .int tape, .int seed, .int cnt]) ∧ 0 ≤ i, ?_, ?_⟩
    · -- if hand[2] == 0 and hand[1] < len(hand[0])
      refine ⟨_, rfl, h, _, _, _, rfl, rfl, .inl (.inl hH), atI_nat (j := 2) rfl, rfl, _, rfl, ite2 (fun _ => ?_) (fun _ => ?_)⟩
      · refine ⟨_, rfl, h, _, _, _, rfl, rfl, .inl (.inl hH), atI_nat (j := 1) rfl, _, rfl, h, _, _, _, rfl, rfl, .inl (.inl hH), atI_nat (j := 0) rfl, c, _, rfl, .inl (.inl (.inl hC)), _, _, rfl, rfl, _, rfl, ite2 (fun hlt => ?_) (fun _ => ?_)⟩
        · have hlt := of_decide_eq_true hlt
          rw [List.length_map] at hlt
          obtain ⟨j, rfl⟩ : ∃ j : Nat, i = (j : Int) := ⟨i.toNat, by omega⟩
          have hj : j < cs.length := by omega
          refine ⟨_, rfl, h, _, _, _, rfl, rfl, .inl (.inl hH), atI_nat (j := 0) rfl, _, rfl, h, _, _, _, rfl, rfl, .inl (.inl hH), atI_nat (j := 1) rfl, c, _, _, .int cs[j], rfl, rfl, .inl (.inl hC), atI_nat (by rw [List.getElem?_map, List.getElem?_eq_getElem hj]; rfl), ?_⟩
          refine ⟨_, rfl, h, _, _, _, rfl, rfl, .inl (.inl hH), atI_nat (j := 1) rfl, _, _, rfl, rfl, _, rfl, h, _, _, 1, rfl, rfl, hH, ixN_nat (j := 1) (by show 1 < 5; decide), ?_⟩
          have e1 : Ex B (upd H h (.lst ([V.ref c, .int (j : Int), .int tape, .int seed, .int cnt].set 1 (.int ((j : Int) + 1))))) := eB.mut hB
          have hH1 : (upd H h (.lst ([V.ref c, .int (j : Int), .int tape, .int seed, .int cnt].set 1 (.int ((j : Int) + 1))))) h = some (.lst [V.ref c, .int ((j : Int) + 1), .int tape, .int seed, .int cnt]) := upd_same
          generalize upd H h (.lst ([V.ref c, .int (j : Int), .int tape, .int seed, .int cnt].set 1 (.int ((j : Int) + 1)))) = H1 at e1 hH1
          refine ⟨_, rfl, h, _, _, _, rfl, rfl, .inl (.inl hH1), atI_nat (j := 3) rfl, _, _, rfl, rfl, .inr ⟨by decide, by decide⟩, _, rfl, _, _, rfl, rfl, _, _, rfl, rfl, .inl ⟨_, rfl, _, _, rfl, rfl, (by show (0 : Int) < 2147483629; decide), _, rfl, h, _, _, 3, rfl, rfl, hH1, ixN_nat (j := 3) (by show 3 < 5; decide), ?_⟩⟩
          refine ⟨_, rfl, _, _, rfl, rfl, ⟨by decide, by decide, by decide⟩, _, _, rfl, rfl, _, rfl, ?_⟩
          have e2 := fun o : HO => e1.mut (o := o) hB
          have hC2 := fun o : HO => e2 o _ _ hCB
          refine ite2 (fun _ => ?_) (fun _ => ?_)
          · refine ⟨_, rfl, _, rfl, h, _, _, 2, rfl, rfl, upd_same, ixN_nat (j := 2) (by rw [List.length_set]; show 2 < 5; decide), ?_⟩
            exact ⟨_, _, _, _, _, _, _, rfl, Ex.mut (e2 _) hB, upd_same, by omega⟩
          · exact ⟨_, _, _, _, _, _, _, rfl, e2 _, upd_same, by omega⟩
        · exact ⟨i, tape, seed, cnt, none, none, none, rfl, eB, hH, hi⟩
      · exact ⟨i, tape, seed, cnt, none, none, none, rfl, eB, hH, hi⟩
    · rintro σ H1 ⟨i, tape, seed, cnt, y2, y3, y4, rfl, e1, hH1, hi⟩
      refine ⟨_, rfl, h, _, _, _, rfl, rfl, .inl (.inl hH1), atI_nat (j := 2) rfl, _, _, rfl, rfl, _, rfl, ite2 (fun _ => ?_) (fun _ => ?_)⟩
      · obtain ⟨dg, hd, ed⟩ := nat_mod tape hm0
        refine ⟨_, rfl, h, _, _, _, rfl, rfl, .inl (.inl hH1), atI_nat (j := 2) rfl, .inl ⟨_, rfl, _, rfl, _, _, rfl, rfl, (by show (0 : Int) < (m : Int); omega), ?_⟩⟩
        refine ⟨_, rfl, h, _, _, _, rfl, rfl, .inl (.inl hH1), atI_nat (j := 2) rfl, _, rfl, _, _, rfl, rfl, ⟨by omega, by omega⟩, _, rfl, h, _, _, 2, rfl, rfl, hH1, ixN_nat (j := 2) (by show 2 < 5; decide), ?_⟩
        refine ⟨_, rfl, ?_⟩
        show Q (V.int (tape % (m : Int))) _
        rw [ed]
        exact q dg _ hd (e1.mut hB) ⟨nch, cs, _, _, _, _, upd_same, (e1.mut hB) _ _ hCB, hi⟩
      · -- hand[4] = hand[4] + 1
        refine ⟨_, rfl, h, _, _, _, rfl, rfl, .inl (.inl hH1), atI_nat (j := 4) rfl, _, _, rfl, rfl, _, rfl, h, _, _, 4, rfl, rfl, hH1, ixN_nat (j := 4) (by show 4 < 5; decide), ?_⟩
        have e2 : Ex B (upd H1 h (.lst ([V.ref c, .int i, .int tape, .int seed, .int cnt].set 4 (.int (cnt + 1))))) := e1.mut hB
        have hH2 : (upd H1 h (.lst ([V.ref c, .int i, .int tape, .int seed, .int cnt].set 4 (.int (cnt + 1))))) h = some (.lst [V.ref c, .int i, .int tape, .int seed, .int (cnt + 1)]) := upd_same
        generalize upd H1 h (.lst ([V.ref c, .int i, .int tape, .int seed, .int cnt].set 4 (.int (cnt + 1)))) = H2 at e2 hH2
        -- number, three times
        refine ⟨_, rfl, h, _, _, _, rfl, rfl, .inl (.inl hH2), atI_nat (j := 3) rfl, _, rfl, h, _, _, _, rfl, rfl, .inl (.inl hH2), atI_nat (j := 4) rfl, _, _, rfl, rfl, .inl ⟨by decide, by decide⟩, _, _, rfl, rfl, .inl ⟨_, rfl, _, _, rfl, rfl, .inr ⟨by decide, by decide⟩, .inl ⟨_, rfl, _, _, rfl, rfl, (by show (0 : Int) < 2147483647; decide), ?_⟩⟩⟩
        have key : ∀ x : Int, ∀ M : Int, 0 < M → M ≤ 2147483647 → -(2 ^ 64) < x % M ∧ x % M < 2 ^ 64 := fun x M h1 h2 => by
          have h3 := Int.emod_nonneg x (show M ≠ 0 by omega)
          have h4 := Int.emod_lt_of_pos x h1
          omega
        refine ⟨_, rfl, _, rfl, _, _, rfl, rfl, ⟨by decide, by decide⟩, _, _, rfl, rfl, _, _, rfl, rfl, .inl (key _ 2147483647 (by decide) (by decide)), .inl ⟨_, rfl, _, _, rfl, rfl, (by show (0 : Int) < 2147483647; decide), ?_⟩⟩
        refine ⟨_, rfl, _, rfl, _, _, rfl, rfl, ⟨by decide, by decide⟩, _, _, rfl, rfl, _, _, rfl, rfl, .inl (key _ 2147483647 (by decide) (by decide)), .inl ⟨_, rfl, _, _, rfl, rfl, (by show (0 : Int) < 2147483399; decide), ?_⟩⟩
        refine ⟨_, rfl, _, _, rfl, rfl, ⟨by decide, by decide⟩, .inl ⟨_, rfl, _, rfl, _, _, rfl, rfl, (by show (0 : Int) < (m : Int); omega), ?_⟩⟩
        obtain ⟨dg, hd, ed⟩ := nat_mod _ hm0
        show Q (V.int (_ % (m : Int))) _
        rw [ed]
        exact q dg _ hd e2 ⟨nch, cs, _, _, _, _, hH2, e2 _ _ hCB, hi⟩
end
end Fv
end
section
/-! the law's own view, tree, lot -/
namespace Fv
open PySem PySem.Spec PyProof.Rows L2 Evl
/-! ### a tree that grows -/
structure Grow (m : Nat) (left ps fs : List Nat) : Prop where
  flen : fs.length = m
  nd : left.Nodup
  lin : ∀ b ∈ left, 1 ≤ b ∧ b ≤ m ∧ ¬ b ∈ ps
  p0 : ps[0]? = some 0
  all : ∀ b, 1 ≤ b → b ≤ m → b ∈ left ∨ b ∈ ps
  cnt : ps.length + left.length = m + 1
  pr : ∀ j, 0 < j → j < ps.length → ∃ i b q, i < j ∧ ps[j]? = some b ∧ ps[i]? = some q ∧ 1 ≤ b ∧ b ≤ m ∧ fs[b - 1]? = some q
  fle : ∀ x ∈ fs, x ≤ m
theorem Grow.ple {m : Nat} {left ps fs : List Nat} (G : Grow m left ps fs) {i q : Nat} (h : ps[i]? = some q) : q ≤ m := by
  by_cases hi : i = 0
  · subst hi
    rw [G.p0] at h
    cases h
    exact Nat.zero_le _
  · obtain ⟨_, b, _, _, h1, _, _, h2, _⟩ := G.pr i (by omega) (List.getElem?_eq_some_iff.mp h).1
    rw [h] at h1
    cases h1
    exact h2
theorem mem_erase {l : List Nat} (hn : l.Nodup) {k b x : Nat} (hk : l[k]? = some b) : x ∈ l.eraseIdx k ↔ x ∈ l ∧ x ≠ b := by
  rw [List.mem_eraseIdx_iff_getElem?]
  constructor
  · rintro ⟨i, hi, h⟩
    refine ⟨List.mem_of_getElem? h, fun e => hi ?_⟩
    rw [e] at h
    exact nd_ix hn h hk
  · rintro ⟨h1, h2⟩
    obtain ⟨i, hi⟩ := List.mem_iff_getElem?.mp h1
    refine ⟨i, fun e => h2 ?_, hi⟩
    rw [e, hk] at hi
    exact (Option.some.inj hi).symm
theorem Grow.step {m : Nat} {left ps fs : List Nat} (G : Grow m left ps fs) {k b i q : Nat} (hk : left[k]? = some b) (hq : ps[i]? = some q) : Grow m (left.eraseIdx k) (ps ++ [b]) (fs.set (b - 1) q) := by
  obtain ⟨b1, b2, b3⟩ := G.lin b (List.mem_of_getElem? hk)
  have hkl := (List.getElem?_eq_some_iff.mp hk).1
  have hil := (List.getElem?_eq_some_iff.mp hq).1
  have hfl := G.flen
  refine ⟨by rw [List.length_set]; exact hfl, List.Pairwise.sublist (List.eraseIdx_sublist _ _) G.nd, fun x hx => ?_, ?_, fun x h1 h2 => ?_, ?_, fun j h1 h2 => ?_, fun x hx => ?_⟩
  · obtain ⟨h1, h2⟩ := (mem_erase G.nd hk).mp hx
    obtain ⟨x1, x2, x3⟩ := G.lin x h1
    refine ⟨x1, x2, fun z => ?_⟩
    rcases List.mem_append.mp z with z | z
    · exact x3 z
    · exact h2 (List.mem_singleton.mp z)
  · rw [List.getElem?_append_left (by omega)]; exact G.p0
  · rcases G.all x h1 h2 with h | h
    · by_cases e : x = b
      · exact .inr (List.mem_append_right _ (List.mem_singleton.mpr e))
      · exact .inl ((mem_erase G.nd hk).mpr ⟨h, e⟩)
    · exact .inr (List.mem_append_left _ h)
  · have := G.cnt
    rw [List.length_append, List.length_singleton, List.length_eraseIdx, if_pos hkl]
    omega
  · rw [List.length_append, List.length_singleton] at h2
    by_cases hj : j < ps.length
    · obtain ⟨i', b', q', g1, g2, g3, g4, g5, g6⟩ := G.pr j h1 hj
      have nb : b' ≠ b := fun e => b3 (by rw [← e]; exact List.mem_of_getElem? g2)
      refine ⟨i', b', q', g1, by rw [List.getElem?_append_left hj]; exact g2, by rw [List.getElem?_append_left (by omega)]; exact g3, g4, g5, ?_⟩
      rw [List.getElem?_set_ne (by omega)]
      exact g6
    · have ej : j = ps.length := by omega
      subst ej
      refine ⟨i, b, q, hil, ?_, by rw [List.getElem?_append_left hil]; exact hq, b1, b2, ?_⟩
      · rw [List.getElem?_append_right (Nat.le_refl _), Nat.sub_self]; rfl
      · rw [List.getElem?_set_self (by omega)]
  · rcases List.mem_or_eq_of_mem_set hx with h | h
    · exact G.fle x h
    · rw [h]; exact G.ple hq
theorem Grow.tree {m : Nat} {ps fs : List Nat} (G : Grow m [] ps fs) (h1 : 1 ≤ m) (h40 : m ≤ 40) : TreeOk fs := by
  have hfl := G.flen
  have hpl : ps.length = m + 1 := by have := G.cnt; simpa using this
  have par_of : ∀ b q, 1 ≤ b → fs[b - 1]? = some q → par fs b = q := fun b q hb h => by
    unfold par
    rw [if_neg (by omega), List.getD_eq_getElem?_getD, h]
    rfl
  have key : ∀ n j b, j ≤ n → ps[j]? = some b → up fs j b = 0 := by
    intro n
    induction n with
    | zero =>
      intro j b hj h
      have hj : j = 0 := by omega
      subst hj
      rw [G.p0] at h
      cases h
      rfl
    | succ n ih =>
      intro j b hj h
      by_cases hj0 : j = 0
      · exact ih j b (by omega) h
      · obtain ⟨i, b', q, g1, g2, g3, g4, g5, g6⟩ := G.pr j (by omega) (List.getElem?_eq_some_iff.mp h).1
        rw [h] at g2
        cases g2
        have hi := ih i q (by omega) g3
        have hu : up fs (i + 1) b = 0 := by
          show up fs i (par fs b) = 0
          rw [par_of b q g4 g6]
          exact hi
        exact up_ge hu (by omega)
  refine ⟨by omega, by omega, fun b => ?_, fun b hb => ?_⟩
  · by_cases hb : b = 0
    · rw [hb, par0]; omega
    · by_cases hb2 : b ≤ fs.length
      · obtain ⟨i, rfl⟩ : ∃ i, b = i + 1 := ⟨b - 1, by omega⟩
        rw [par_at (show i < fs.length by omega)]
        have := G.fle _ (List.getElem_mem (show i < fs.length by omega))
        omega
      · rw [par_out (by omega)]; omega
  · by_cases hb0 : b = 0
    · rw [hb0, up0]
    · rcases G.all b (by omega) (by omega) with h | h
      · cases h
      · obtain ⟨j, hj⟩ := List.mem_iff_getElem?.mp h
        have hjl := (List.getElem?_eq_some_iff.mp hj).1
        exact up_ge (key j j b (Nat.le_refl _) hj) (by omega)
def range1 (m : Nat) : List Nat := (List.range m).map fun i => i + 1
theorem Grow.start (m : Nat) : Grow m (range1 m) [0] (List.replicate m 0) := by
  refine ⟨List.length_replicate, map_nodup (fun a b e => by omega) List.nodup_range, fun b hb => ?_, rfl, fun b h1 h2 => .inl (List.mem_map.mpr ⟨b - 1, List.mem_range.mpr (by omega), by omega⟩), ?_, fun j h1 h2 => ?_, fun x hx => ?_⟩
  · obtain ⟨i, hi, rfl⟩ := List.mem_map.mp hb
    have := List.mem_range.mp hi
    refine ⟨by omega, by omega, fun z => ?_⟩
    have := List.mem_singleton.mp z
    omega
  · unfold range1
    rw [List.length_map, List.length_range, List.length_singleton]
    omega
  · rw [List.length_singleton] at h2; omega
  · rw [List.eq_of_mem_replicate hx]; exact Nat.zero_le _
theorem rgV_one (m : Nat) : rgV 1 ((m : Int) + 1) = vns (range1 m) := by
  unfold rgV range1 vns
  rw [List.map_map]
  have e : ((m : Int) + 1 - 1).toNat = m := by omega
  rw [e]
  refine List.map_congr_left fun i _ => ?_
  show V.int (1 + (i : Int)) = V.int ((i + 1 : Nat) : Int)
  congr 1
  omega
theorem vns_erase : ∀ (l : List Nat) (k : Nat), (vns l).eraseIdx k = vns (l.eraseIdx k)
  | [], _ => rfl
  | _ :: _, 0 => rfl
  | a :: r, k + 1 => by
    show VI a :: (vns r).eraseIdx k = VI a :: vns (r.eraseIdx k)
    rw [vns_erase r k]
theorem vns_set : ∀ (l : List Nat) (k x : Nat), (vns l).set k (VI x) = vns (l.set k x)
  | [], _, _ => rfl
  | _ :: _, 0, _ => rfl
  | a :: r, k + 1, x => by
    show VI a :: (vns r).set k (VI x) = VI a :: vns (r.set k x)
    rw [vns_set r k x]
theorem seq_nat {j n : Nat} (h : j < n) : PySem.seqIndex? (j : Int) n = some j := (ixN_seq (ixN_nat h)).1
theorem rep_flat (x : V) : ∀ n, (List.replicate n [x]).flatten = List.replicate n x
  | 0 => rfl
  | n + 1 => by rw [List.replicate_succ, List.flatten_cons, rep_flat x n, List.replicate_succ]; rfl
section
variable {P : Program} {w : World} {K : PySem.W.Frag} {mg : Str → Option Value} {base : Heap}
def sp_law_hand (K : PySem.W.Frag) : Sp := fun vs H Q _ => ∃ (a : Addr) (ns : List Int), vs = [.ref a] ∧ SqL K H a (ns.map V.int) ∧ ns.length ≤ 63 ∧ ∀ h c H', H h = none → Ex H H' → HandAt H' h c → Q (.ref h) H'
theorem ok_law_hand (T : Txt K mg) : Callee P w K mg base 1 "_law_hand" ["_law_script"] (sp_law_hand K) := by
  refine callee_mk T.f_law_hand T.g_law_hand (fun fd F => ?_) (fun _ _ _ _ _ _ us hl => match us, hl with | [_], _ => rfl)
  refine F.ok sc_law_hand (fun vs H Q E h => ?_) (fun cdv A outer s H vs Q E hr h => ?_)
  · obtain ⟨a, ns, rfl, _⟩ := h; rfl
  · obtain ⟨a, ns, rfl, hA, hl, q⟩ := h
    refine ⟨_, (pss_cons (ps_setLc (i := 1) (own := [("_law_cell", 2)]) (g := (gName 2)) (tt := tYes) (by rfl) sc_law_hand.nd rfl rfl (sw_true rfl rfl rfl (by decide +kernel)) (pi_list (pe_slice sl_list (pv 0) po_none (po_some pe_int))) (blkOk_by (own := [("_law_cell", 2)]) (N := N_law_hand) (sc := defScope s_law_hand) (by decide +kernel)) (fun _ _ _ _ _ => (pg_name (i := 2) sc_law_hand.nd rfl (Or.inl rfl))) (fun _ _ _ _ _ => pts_nil) (fun _ _ _ _ _ => (pe_callB call_abs (by rfl) T.n_abs (by decide +kernel) (pa_cons (pe_callTy call_int1 (by rfl) T.n_int (by decide +kernel) (pa_cons (pv 2) pa_nil)) pa_nil))))
      (pss_one (ps_ret (pe_lst (pa_cons (pv 1) (pa_cons pe_int (pa_cons pe_int (pa_cons (pe_op op_add pe_int (pe_callB call_len_seq (by rfl) T.n_len PySem.boot_len (pa_cons (pv 1) pa_nil))) (pa_cons pe_int pa_nil))))))))), ?_⟩
    refine ⟨.ref a, rfl, _, rfl, a, _, rfl, hA, fun sl hsl => ?_⟩
    have e1 : Ex H (upd H sl (.lst (cutV (ns.map V.int) none (some 63)))) := Ex.new hsl
    have hs1 : (upd H sl (.lst (cutV (ns.map V.int) none (some 63)))) sl = some (.lst ((ns.take 63).map V.int)) := by
      rw [upd_same, show cutV (ns.map V.int) none (some 63) = (ns.map V.int).take 63 from cut_take _ 63, List.map_take]
    generalize upd H sl (.lst (cutV (ns.map V.int) none (some 63))) = H1 at e1 hs1
    refine ⟨sl, rfl, ⟨_, .inl (.inl hs1)⟩, ?_⟩
    refine lcL (K := K) (xs := (ns.take 63).map V.int) (.inl (.inl hs1)) (f := fun _ => true) (E := fun i y _ => ∃ z : Int, y = .int z) (fun i y H H' e h => h) (by rw [List.length_map, List.length_take]; omega) (fun D i x H' hD e hys hx Qy Qn qy qn => ?_) (fun D ys H2 hD e hy hp => ?_)
    · rw [List.getElem?_map] at hx
      cases hz : (ns.take 63)[i]? with
      | none => rw [hz] at hx; cases hx
      | some z =>
        rw [hz] at hx
        cases hx
        refine yes_go rfl ?_
        exact ⟨_, rfl, .inl ⟨z, rfl, z, rfl, qy _ _ (Ex.refl _) rfl ⟨_, rfl⟩⟩⟩
    · obtain ⟨cs, ecs⟩ : ∃ cs : List Int, ys = cs.map V.int := by
        clear hy
        generalize (List.range ((ns.take 63).map V.int).length).filter (fun _ => true) = l at hp
        induction hp with
        | nil => exact ⟨[], rfl⟩
        | cons r t ih =>
          obtain ⟨z, rfl⟩ := r
          obtain ⟨cs, rfl⟩ := ih
          exact ⟨z :: cs, rfl⟩
      subst ecs
      refine ⟨.ref D, rfl, .ref D, rfl, D, _, rfl, .inl (.inl (.inl hy)), _, _, rfl, rfl, (by show 5 ≤ sizeLine; decide), fun h hh => ?_⟩
      refine q h D _ (fresh_back (e1.trans e) hh) ((e1.trans e).trans (Ex.new hh)) ⟨ne_of_none hy hh, cs, 0, 0, _, 0, upd_same, ?_, by decide⟩
      rw [upd_ne (ne_of_none hy hh)]
      exact hy
def sp_law_view : Sp := fun vs H Q _ => ∃ (h c : Addr), vs = [.ref h] ∧ HandAt H h c ∧ ∀ (u d : Nat) t H', u ≤ 4 → d ≤ 4 → Ex (del H h) H' → HandAt H' h c → H' t = some (.tup [VI u, VI d]) → Q (.ref t) H'
theorem ok_law_view (T : Txt K mg) : Callee P w K mg base 2 "_law_view" ["_law_hand_here"] sp_law_view := by
  refine callee_mk T.f_law_view T.g_law_view (fun fd F => ?_) (fun _ _ _ _ _ _ us hl => match us, hl with | [_], _ => rfl)
  refine F.ok sc_law_view (fun vs H Q E h => ?_) (fun cdv A outer s H vs Q E hr h => ?_)
  · obtain ⟨h, c, rfl, _⟩ := h; rfl
  · obtain ⟨h, c, rfl, hH, q⟩ := h
    have pick : ∀ d : Nat, d < 3 → ∃ m : Nat, ([V.int 2, V.int 3, V.int 5] : List V)[d]? = some (VI m) ∧ 0 < m ∧ m ≤ 5 := fun d hd => by
      rcases d with _ | _ | _ | d
      · exact ⟨2, rfl, by omega, by omega⟩
      · exact ⟨3, rfl, by omega, by omega⟩
      · exact ⟨5, rfl, by omega, by omega⟩
      · omega
    refine ⟨_, (pss_one (ps_ret (pe_tup (pa_cons (pe_cal (ok_law_draw T) (hr.mono (by decide)) (by rfl) (pa_cons (pv 0) (pa_cons (pe_ix ix_list (pe_lst (pa_cons pe_int (pa_cons pe_int (pa_cons pe_int pa_nil)))) (pe_cal (ok_law_draw T) (hr.mono (by decide)) (by rfl) (pa_cons (pv 0) (pa_cons pe_int pa_nil))) (fun _ _ => rfl)) pa_nil))) (pa_cons (pe_cal (ok_law_draw T) (hr.mono (by decide)) (by rfl) (pa_cons (pv 0) (pa_cons (pe_ix ix_list (pe_lst (pa_cons pe_int (pa_cons pe_int (pa_cons pe_int pa_nil)))) (pe_cal (ok_law_draw T) (hr.mono (by decide)) (by rfl) (pa_cons (pv 0) (pa_cons pe_int pa_nil))) (fun _ _ => rfl)) pa_nil))) pa_nil))))), ?_⟩
    refine ⟨.ref h, rfl, (by show 3 ≤ sizeLine; decide), fun l1 hl1 => ?_⟩
    have n1 : l1 ≠ h := fun z => by obtain ⟨ys, hy⟩ := hH.lst; rw [z, hy] at hl1; cases hl1
    have e1 := Ex.new (o := .lst [.int 2, .int 3, .int 5]) hl1
    refine ⟨.ref h, rfl, h, c, 3, rfl, by omega, by omega, hH.mono e1, fun d1 H2 hd1 e2 hH2 => ?_⟩
    obtain ⟨m1, hm1, hm10, hm15⟩ := pick d1 hd1
    refine ⟨l1, _, _, _, rfl, rfl, .inl (.inl (exd e2 upd_same n1)), atI_nat hm1, h, c, m1, rfl, hm10, by omega, hH2, fun u H3 hu e3 hH3 => ?_⟩
    have hB : (del H h) h = none := del_same
    have e03 : Ex (del H h) H3 := ((del_mono e1).trans e2 |> fun e => ex_back e hB).trans e3
    refine ⟨.ref h, rfl, (by show 3 ≤ sizeLine; decide), fun l4 hl4 => ?_⟩
    have n4 : l4 ≠ h := fun z => by obtain ⟨ys, hy⟩ := hH3.lst; rw [z, hy] at hl4; cases hl4
    have e4 := Ex.new (o := .lst [.int 2, .int 3, .int 5]) hl4
    refine ⟨.ref h, rfl, h, c, 3, rfl, by omega, by omega, hH3.mono e4, fun d5 H5 hd5 e5 hH5 => ?_⟩
    obtain ⟨m5, hm5, hm50, hm55⟩ := pick d5 hd5
    refine ⟨l4, _, _, _, rfl, rfl, .inl (.inl (exd e5 upd_same n4)), atI_nat hm5, h, c, m5, rfl, hm50, by omega, hH5, fun d H6 hd e6 hH6 => ?_⟩
    have e05 : Ex (del H h) H5 := (ex_back (e03.trans e4) hB).trans e5
    have e06 : Ex (del H h) H6 := (ex_back e05 hB).trans e6
    refine ⟨(by show 2 ≤ sizeLine; decide), fun t ht => ?_⟩
    have e7 := Ex.new (o := .tup [VI u, VI d]) ht
    exact q u d t _ (by omega) (by omega) (e06.trans e7) (hH6.mono e7) upd_same
def sp_law_tree : Sp := fun vs H Q _ => ∃ (h c : Addr) (m : Nat), vs = [.ref h, VI m] ∧ 1 ≤ m ∧ m ≤ 40 ∧ HandAt H h c ∧ ∀ t hs H', TreeOk hs → hs.length = m → Ex (del H h) H' → HandAt H' h c → H' t = some (.tup (vns hs)) → Q (.ref t) H'
theorem ok_law_tree (T : Txt K mg) : Callee P w K mg base 2 "_law_tree" ["_law_hand_here", "_law_many"] sp_law_tree := by
  refine callee_mk T.f_law_tree T.g_law_tree (fun fd F => ?_) (fun _ _ _ _ _ _ us hl => match us, hl with | [_, _], _ => rfl)
  refine F.ok sc_law_tree (fun vs H Q E h => ?_) (fun cdv A outer s H vs Q E hr h => ?_)
  · obtain ⟨h, c, m, rfl, _⟩ := h; rfl
  · obtain ⟨h, c, m, rfl, hm1, hm40, hH, q⟩ := h
    obtain ⟨ysc, hC⟩ := hH.cell
    have hB : (del H h) h = none := del_same
    have eB : Ex (del H h) H := ex_del
    have hh : ∃ ys, H h = some (.lst ys) := hH.lst
    generalize del H h = B at hC hB eB q
    refine ⟨_, (pss_cons (ps_set (i := 2) sc_law_tree.nd rfl (Or.inl rfl) (pe_listRg (by rfl) (by rfl) T.n_list (prg_2 (by rfl) T.n_range pe_int (pe_op op_add (pv 1) pe_int))))
      (pss_cons (ps_set (i := 3) sc_law_tree.nd rfl (Or.inl rfl) (pe_lst (pa_cons pe_int pa_nil)))
      (pss_cons (ps_set (i := 4) sc_law_tree.nd rfl (Or.inl rfl) (pe_op op_rep (pe_lst (pa_cons pe_int pa_nil)) (pv 1)))
      (pss_cons (ps_while PassesOwn.never (pt_cmpR op_gt (pe_callB call_len_seq (by rfl) T.n_len PySem.boot_len (pa_cons (pv 2) pa_nil)) pe_int (nomark _)) (pss_cons (ps_set (i := 5) sc_law_tree.nd rfl (Or.inl rfl) (pe_bm PySem.F.plainAttrs_list PySem.F.slot_list_pop PySem.F.type_list_pop mt_popAt (pv 2) (pa_cons (pe_cal (ok_law_draw T) (hr.mono (by decide)) (by rfl) (pa_cons (pv 0) (pa_cons (pe_callB call_len_seq (by rfl) T.n_len PySem.boot_len (pa_cons (pv 2) pa_nil)) pa_nil))) pa_nil)))
      (pss_cons (ps_asg (pe_ix ix_list (pv 3) (pe_cal (ok_law_draw T) (hr.mono (by decide)) (by rfl) (pa_cons (pv 0) (pa_cons (pe_callB call_len_seq (by rfl) T.n_len PySem.boot_len (pa_cons (pv 3) pa_nil)) pa_nil))) (fun _ _ => rfl)) (pg_sub (pv 4) (pe_op op_sub (pv 5) pe_int) set_list))
      (pss_one (ps_expr (pe_bm PySem.F.plainAttrs_list PySem.F.slot_list_append PySem.F.type_list_append mt_append (pv 3) (pa_cons (pv 5) pa_nil)))))))
      (pss_one (ps_ret (pe_callTy call_tuple_of (by rfl) T.n_tuple (by decide +kernel) (pa_cons (pv 4) pa_nil)))))))), ?_⟩
    refine ⟨_, rfl, _, _, rfl, rfl, _, _, rfl, rfl, .of_le (by omega) (by omega) (by omega) (by omega), fun ll hll => ?_⟩
    rw [rgV_one]
    have e1 := eB.trans (Ex.new (o := .lst (vns (range1 m))) hll)
    have hH1 := hH.mono (Ex.new (o := .lst (vns (range1 m))) hll)
    have hL1 : (upd H ll (.lst (vns (range1 m)))) ll = some (.lst (vns (range1 m))) := upd_same
    have nl : ll ≠ h := fun z => by obtain ⟨ys, hy⟩ := hh; rw [z, hy] at hll; cases hll
    have bl : B ll = none := fresh_back eB hll
    generalize upd H ll (.lst (vns (range1 m))) = H1 at e1 hH1 hL1
    refine ⟨(by show 1 ≤ sizeLine; decide), fun lp hlp => ?_⟩
    have e2 := e1.trans (Ex.new (o := .lst [.int 0]) hlp)
    have hH2 := hH1.mono (Ex.new (o := .lst [.int 0]) hlp)
    have hL2 : (upd H1 lp (.lst [.int 0])) ll = some (.lst (vns (range1 m))) := by rw [upd_ne (ne_of_none hL1 hlp)]; exact hL1
    have hP2 : (upd H1 lp (.lst [.int 0])) lp = some (.lst (vns [0])) := upd_same
    have np : lp ≠ h := fun z => by obtain ⟨ys, hy⟩ := hH1.lst; rw [z, hy] at hlp; cases hlp
    have bp : B lp = none := fresh_back e1 hlp
    have nlp : ll ≠ lp := ne_of_none hL1 hlp
    generalize upd H1 lp (.lst [.int 0]) = H2 at e2 hH2 hL2 hP2
    refine ⟨(by show 1 ≤ sizeLine; decide), fun l0 hl0 => ?_⟩
    have e3 := e2.trans (Ex.new (o := .lst [.int 0]) hl0)
    have hH3 := hH2.mono (Ex.new (o := .lst [.int 0]) hl0)
    have hL3 := Ex.new (o := .lst [.int 0]) hl0 _ _ hL2
    have hP3 := Ex.new (o := .lst [.int 0]) hl0 _ _ hP2
    refine ⟨_, rfl, l0, _, [.int 0], rfl, rfl, upd_same, by omega, by omega, sz_of (by rw [List.length_singleton]; omega), fun lf hlf => ?_⟩
    rw [rep_flat]
    have ef : List.replicate ((m : Int)).toNat (V.int 0) = vns (List.replicate m 0) := by
      show _ = List.map VI _
      rw [List.map_replicate]
      rfl
    rw [ef]
    have e4 := e3.trans (Ex.new (o := .lst (vns (List.replicate m 0))) hlf)
    have hH4 := hH3.mono (Ex.new (o := .lst (vns (List.replicate m 0))) hlf)
    have hL4 := Ex.new (o := .lst (vns (List.replicate m 0))) hlf _ _ hL3
    have hP4 := Ex.new (o := .lst (vns (List.replicate m 0))) hlf _ _ hP3
    have hF4 : (upd (upd H2 l0 (.lst [.int 0])) lf (.lst (vns (List.replicate m 0)))) lf = some (.lst (vns (List.replicate m 0))) := upd_same
    have nf : lf ≠ h := fun z => by obtain ⟨ys, hy⟩ := hH3.lst; rw [z, hy] at hlf; cases hlf
    have bf : B lf = none := fresh_back e3 hlf
    have nlf : ll ≠ lf := ne_of_none hL3 hlf
    have npf : lp ≠ lf := ne_of_none hP3 hlf
    generalize upd (upd H2 l0 (.lst [.int 0])) lf (.lst (vns (List.replicate m 0))) = H4 at e4 hH4 hL4 hP4 hF4
    clear e3 hH3 hL3 hP3 hl0 e2 hH2 hL2 hP2 hlf hlp e1 hH1 hL1
    have ncl : c ≠ ll := ne_of_none hC bl
    have ncp : c ≠ lp := ne_of_none hC bp
    have ncf : c ≠ lf := ne_of_none hC bf
    refine ⟨fun n σ H' => ∃ (left ps fs : List Nat) (y : Option V), σ = [some (.ref h), some (VI m), some (.ref ll), some (.ref lp), some (.ref lf), y] ∧ left.length = n ∧ Ex B H' ∧ HandAt H' h c ∧ H' ll = some (.lst (vns left)) ∧ H' lp = some (.lst (vns ps)) ∧ H' lf = some (.lst (vns fs)) ∧ Grow m left ps fs,
      ⟨m, range1 m, [0], List.replicate m 0, none, rfl, by unfold range1; rw [List.length_map, List.length_range], e4, hH4, hL4, hP4, hF4, Grow.start m⟩, ?_⟩
    rintro n σ H5 ⟨left, ps, fs, y, rfl, hn, e5, hH5, hL5, hP5, hF5, G⟩
    have hcnt := G.cnt
    refine ⟨.ref ll, rfl, ll, _, rfl, .inl (.inl (.inl hL5)), _, _, rfl, rfl, _, rfl, ite2 (fun hlt => ?_) (fun hlt => ?_)⟩
    · have hlt := of_decide_eq_true hlt
      rw [List.length_map] at hlt
      have hlt : 0 < left.length := by omega
      refine ⟨fun σ' H' => ∃ (left ps fs : List Nat) (y : Option V), σ' = [some (.ref h), some (VI m), some (.ref ll), some (.ref lp), some (.ref lf), y] ∧ left.length = n - 1 ∧ Ex B H' ∧ HandAt H' h c ∧ H' ll = some (.lst (vns left)) ∧ H' lp = some (.lst (vns ps)) ∧ H' lf = some (.lst (vns fs)) ∧ Grow m left ps fs, fun σ' H' hN => ⟨n - 1, by omega, hN⟩, ?_⟩
      have elen : (((vns left).length : Nat) : Int) = ((left.length : Nat) : Int) := by rw [List.length_map]
      refine ⟨.ref ll, rfl, .inl ⟨rfl, _, .inl (.inl hL5)⟩, .ref h, rfl, .ref ll, rfl, ll, _, rfl, .inl (.inl (.inl hL5)), h, c, left.length, by rw [elen]; rfl, hlt, by omega, hH5, fun k H6 hk e6 hH6 => ?_⟩
      have e06 := (ex_back e5 hB).trans e6
      have hL6 := exd e6 hL5 nl
      have hP6 := exd e6 hP5 np
      have hF6 := exd e6 hF5 nf
      have hkb : left[k]? = some left[k] := List.getElem?_eq_getElem hk
      generalize left[k] = b at hkb
      obtain ⟨b1, b2, b3⟩ := G.lin b (List.mem_of_getElem? hkb)
      refine ⟨ll, _, _, k, VI b, rfl, rfl, hL6, by omega, by omega, seq_nat (by rw [List.length_map]; exact hk), by rw [List.getElem?_map, hkb]; rfl, ?_⟩
      rw [vns_erase]
      have e7 := e06.mut (o := .lst (vns (left.eraseIdx k))) bl
      have hH7 := hH6.upd (o := .lst (vns (left.eraseIdx k))) nl ncl.symm
      have hL7 : (upd H6 ll (.lst (vns (left.eraseIdx k)))) ll = some (.lst (vns (left.eraseIdx k))) := upd_same
      have hP7 : (upd H6 ll (.lst (vns (left.eraseIdx k)))) lp = some (.lst (vns ps)) := by rw [upd_ne nlp.symm]; exact hP6
      have hF7 : (upd H6 ll (.lst (vns (left.eraseIdx k)))) lf = some (.lst (vns fs)) := by rw [upd_ne nlf.symm]; exact hF6
      generalize upd H6 ll (.lst (vns (left.eraseIdx k))) = H7 at e7 hH7 hL7 hP7 hF7
      have elen2 : (((vns ps).length : Nat) : Int) = ((ps.length : Nat) : Int) := by rw [List.length_map]
      have hps0 : 0 < ps.length := (List.getElem?_eq_some_iff.mp G.p0).1
      refine ⟨.ref lp, rfl, .ref h, rfl, .ref lp, rfl, lp, _, rfl, .inl (.inl (.inl hP7)), h, c, ps.length, by rw [elen2]; rfl, hps0, by omega, hH7, fun i H8 hi e8 hH8 => ?_⟩
      have e08 := (ex_back e7 hB).trans e8
      have hL8 := exd e8 hL7 nl
      have hP8 := exd e8 hP7 np
      have hF8 := exd e8 hF7 nf
      have hiq : ps[i]? = some ps[i] := List.getElem?_eq_getElem hi
      generalize ps[i] = pq at hiq
      have hb1 : b - 1 < fs.length := by have := G.flen; omega
      refine ⟨lp, _, _, VI pq, rfl, rfl, .inl (.inl hP8), atI_nat (by rw [List.getElem?_map, hiq]; rfl), _, rfl, _, rfl, _, _, rfl, rfl, lf, _, _, b - 1, rfl, rfl, hF8, ?_, ?_⟩
      · have eb : ((b : Int) - 1) = ((b - 1 : Nat) : Int) := by omega
        rw [eb]
        exact ixN_nat (by rw [List.length_map]; exact hb1)
      rw [vns_set]
      have e9 := e08.mut (o := .lst (vns (fs.set (b - 1) pq))) bf
      have hH9 := hH8.upd (o := .lst (vns (fs.set (b - 1) pq))) nf ncf.symm
      have hL9 : (upd H8 lf (.lst (vns (fs.set (b - 1) pq)))) ll = some (.lst (vns (left.eraseIdx k))) := by rw [upd_ne nlf]; exact hL8
      have hP9 : (upd H8 lf (.lst (vns (fs.set (b - 1) pq)))) lp = some (.lst (vns ps)) := by rw [upd_ne npf]; exact hP8
      have hF9 : (upd H8 lf (.lst (vns (fs.set (b - 1) pq)))) lf = some (.lst (vns (fs.set (b - 1) pq))) := upd_same
      generalize upd H8 lf (.lst (vns (fs.set (b - 1) pq))) = H9 at e9 hH9 hL9 hP9 hF9
      refine ⟨.ref lp, rfl, .inl ⟨rfl, _, .inl (.inl hP9)⟩, _, rfl, lp, _, _, rfl, rfl, hP9, sz_lt (by rw [List.length_map]; omega), ?_⟩
      refine ⟨left.eraseIdx k, ps ++ [b], fs.set (b - 1) pq, _, rfl, ?_, e9.mut bp, hH9.upd np ncp.symm, by rw [upd_ne nlp]; exact hL9, by rw [upd_same, vns_app]; rfl, by rw [upd_ne npf.symm]; exact hF9, G.step hkb hiq⟩
      rw [List.length_eraseIdx, if_pos hk]
      omega
    · have hl0 : left = [] := by
        cases left with
        | nil => rfl
        | cons a r => exact absurd (decide_eq_true (by rw [List.length_map, List.length_cons]; omega)) hlt
      subst hl0
      refine ⟨.ref lf, rfl, lf, _, rfl, .inl ⟨.inl (.inl hF5), fun t ht => ?_⟩⟩
      have e6 := Ex.new (o := .tup (vns fs)) ht
      exact q t fs _ (G.tree hm1 hm40) G.flen (e5.trans e6) (hH5.mono e6) upd_same
end
end Fv
end
section
/-! all trees, all lots, the search -/
namespace Fv
open PySem PySem.Spec PyProof.Rows L2 Evl
/-! ### the mirror -/
def isTreeF (hs : List Nat) : Bool := (List.range hs.length).all fun i => decide (up hs hs.length (i + 1) = 0)
def rowsF (m : Nat) : Nat → List (List Nat)
  | 0 => [[]]
  | s + 1 => (rowsF m s).flatMap fun r => ((List.range (m + 1)).filter fun p => decide (p ≠ s + 1)).map fun p => r ++ [p]
def treesF (m : Nat) : List (List Nat) := (rowsF m m).filter isTreeF
def lotsF (m : Nat) : Nat → List (List Nat)
  | 0 => [[]]
  | s + 1 => (lotsF m s).flatMap fun r => ((List.range m).filter fun i => decide (r.getLastD 0 < i + 1)).map fun i => r ++ [i + 1]
def searchL (hs : List Nat) (u d : Nat) : List (List Nat) → Option Bool
  | [] => some false
  | l :: r => match leftF hs u d l with
    | none => none
    | some k => if 1 < k then some true else searchL hs u d r
def searchT (u d : Nat) (lots : List (List Nat)) : List (List Nat) → Option Bool
  | [] => some false
  | hs :: r => match searchL hs u d lots with
    | none => none
    | some true => some true
    | some false => searchT u d lots r
def searchF (u d s : Nat) : Option Bool := searchT u d (lotsF (d + 2) s) (treesF (d + 2))
theorem rows_ok {m : Nat} : ∀ {s : Nat} {r : List Nat}, r ∈ rowsF m s → r.length = s ∧ ∀ x ∈ r, x ≤ m
  | 0, r, h => by
    have h : r ∈ [[]] := h
    rw [List.mem_singleton] at h
    subst h
    exact ⟨rfl, fun x hx => by cases hx⟩
  | s + 1, r, h => by
    obtain ⟨r0, h0, h⟩ := List.mem_flatMap.mp h
    obtain ⟨p, hp, rfl⟩ := List.mem_map.mp h
    obtain ⟨h1, h2⟩ := rows_ok h0
    have hp := List.mem_range.mp (List.mem_filter.mp hp).1
    refine ⟨by rw [List.length_append, List.length_singleton, h1], fun x hx => ?_⟩
    rcases List.mem_append.mp hx with hx | hx
    · exact h2 x hx
    · rw [List.mem_singleton] at hx; omega
theorem lots_ok {m : Nat} : ∀ {s : Nat} {r : List Nat}, r ∈ lotsF m s → r.length = s ∧ r.Pairwise (· < ·) ∧ (∀ x ∈ r, 1 ≤ x ∧ x ≤ m ∧ x ≤ r.getLastD 0)
  | 0, r, h => by
    have h : r ∈ [[]] := h
    rw [List.mem_singleton] at h
    subst h
    exact ⟨rfl, List.Pairwise.nil, fun x hx => by cases hx⟩
  | s + 1, r, h => by
    obtain ⟨r0, h0, h⟩ := List.mem_flatMap.mp h
    obtain ⟨i, hi, rfl⟩ := List.mem_map.mp h
    obtain ⟨h1, h2, h3⟩ := lots_ok h0
    have hi1 := List.mem_range.mp (List.mem_filter.mp hi).1
    have hi2 := of_decide_eq_true (List.mem_filter.mp hi).2
    have eL : (r0 ++ [i + 1]).getLastD 0 = i + 1 := by simp
    refine ⟨by rw [List.length_append, List.length_singleton, h1], ?_, fun x hx => ?_⟩
    · rw [List.pairwise_append]
      refine ⟨h2, List.pairwise_singleton _ _, fun a ha b hb => ?_⟩
      rw [List.mem_singleton] at hb
      have := (h3 a ha).2.2
      omega
    · rw [eL]
      rcases List.mem_append.mp hx with hx | hx
      · obtain ⟨x1, x2, x3⟩ := h3 x hx
        exact ⟨x1, x2, by omega⟩
      · rw [List.mem_singleton] at hx; omega
theorem rows_len (m : Nat) : ∀ s, (rowsF m s).length ≤ (m + 1) ^ s
  | 0 => Nat.le_refl _
  | s + 1 => by
    have h1 : (rowsF m (s + 1)).length ≤ (m + 1) * (rowsF m s).length := flat_len fun r _ => by
      rw [List.length_map]; exact filter_range_len _ _
    have h2 := Nat.mul_le_mul_left (m + 1) (rows_len m s)
    rw [Nat.pow_succ, Nat.mul_comm]
    omega
theorem lots_len (m : Nat) : ∀ s, (lotsF m s).length ≤ m ^ s
  | 0 => Nat.le_refl _
  | s + 1 => by
    have h1 : (lotsF m (s + 1)).length ≤ m * (lotsF m s).length := flat_len fun r _ => by
      rw [List.length_map]; exact filter_range_len _ _
    have h2 := Nat.mul_le_mul_left m (lots_len m s)
    rw [Nat.pow_succ, Nat.mul_comm]
    omega
theorem pow_small {a b s t : Nat} (h : a ≤ b) (hb : 1 ≤ b) (h2 : s ≤ t) : a ^ s ≤ b ^ t := Nat.le_trans (Nat.pow_le_pow_left h s) (Nat.pow_le_pow_right hb h2)
theorem par_le {hs : List Nat} {m : Nat} (h : ∀ x ∈ hs, x ≤ m) (b : Nat) : par hs b ≤ m := by
  by_cases hb : b = 0
  · rw [hb, par0]; exact Nat.zero_le _
  · by_cases hb2 : b ≤ hs.length
    · obtain ⟨i, rfl⟩ : ∃ i, b = i + 1 := ⟨b - 1, by omega⟩
      rw [par_at (show i < hs.length by omega)]
      exact h _ (List.getElem_mem _)
    · rw [par_out (by omega)]; exact Nat.zero_le _
theorem trees_ok {m : Nat} (h1 : 1 ≤ m) (h40 : m ≤ 40) {hs : List Nat} (h : hs ∈ treesF m) : TreeOk hs ∧ hs.length = m := by
  obtain ⟨h2, h3⟩ := List.mem_filter.mp h
  obtain ⟨h4, h5⟩ := rows_ok h2
  refine ⟨⟨by omega, by omega, fun b => by rw [h4]; exact par_le h5 b, fun b hb => ?_⟩, h4⟩
  by_cases hb0 : b = 0
  · rw [hb0, up0]
  · have := List.all_eq_true.mp h3 (b - 1) (List.mem_range.mpr (by omega))
    have := of_decide_eq_true this
    rw [show b - 1 + 1 = b by omega] at this
    exact this
/-! ### tuples in a list -/
theorem seqT_upd {K : PySem.W.Frag} {H : Hp} {a l : Addr} {xs zs : List V} {o : HO} (hl : H l = some (.lst zs)) (h : SqT K H a xs) : SqT K (upd H l o) a xs := by
  rcases h with (h | ⟨o', h⟩) | h
  · exact .inl (.inl (by rw [upd_ne (ne_of h hl (by intro z; cases z))]; exact h))
  · exact .inl (.inr ⟨o', by rw [upd_ne (ne_of h hl (by intro z; cases z))]; exact h⟩)
  · exact .inr h
theorem seqT_del {K : PySem.W.Frag} {H : Hp} {a l : Addr} {xs zs : List V} (hl : H l = some (.lst zs)) (h : SqT K H a xs) : SqT K (del H l) a xs := by
  rcases h with (h | ⟨o', h⟩) | h
  · exact .inl (.inl (by rw [del_ne (ne_of h hl (by intro z; cases z))]; exact h))
  · exact .inl (.inr ⟨o', by rw [del_ne (ne_of h hl (by intro z; cases z))]; exact h⟩)
  · exact .inr h
def TupsAt (K : PySem.W.Frag) (H : Hp) (ls : List (List Nat)) (ys : List V) : Prop := Paired (fun (r : List Nat) (y : V) => ∃ a, y = .ref a ∧ SqT K H a (vns r)) ls ys
theorem TupsAt.mono {K : PySem.W.Frag} {H H' : Hp} {ls : List (List Nat)} {ys : List V} (e : Ex H H') (h : TupsAt K H ls ys) : TupsAt K H' ls ys := paired_imp h fun _ _ _ ⟨a, h1, h2⟩ => ⟨a, h1, ex_t e h2⟩
theorem TupsAt.upd {K : PySem.W.Frag} {H : Hp} {l : Addr} {zs : List V} {o : HO} {ls : List (List Nat)} {ys : List V} (hl : H l = some (.lst zs)) (h : TupsAt K H ls ys) : TupsAt K (upd H l o) ls ys := paired_imp h fun _ _ _ ⟨a, h1, h2⟩ => ⟨a, h1, seqT_upd hl h2⟩
theorem TupsAt.app {K : PySem.W.Frag} {H : Hp} {ls ms : List (List Nat)} {ys zs : List V} (h : TupsAt K H ls ys) (h' : TupsAt K H ms zs) : TupsAt K H (ls ++ ms) (ys ++ zs) := Paired.app h h'
theorem filt_idxL {l : List (List Nat)} (P : List Nat → Bool) : ((List.range l.length).filter fun j => P (l.getD j [])).map (fun j => l.getD j []) = l.filter P := by
  have em : (List.range l.length).map (fun i => l.getD i []) = l := range_map_at fun i x h => by rw [List.getD_eq_getElem?_getD, h]; rfl
  conv => rhs; rw [← em]
  rw [List.filter_map]
  rfl
section
variable {P : Program} {w : World} {K : PySem.W.Frag} {mg : Str → Option Value} {base : Heap}
def sp_law_is_tree (K : PySem.W.Frag) : Sp := fun vs H Q _ => ∃ (a : Addr) (hs : List Nat), vs = [.ref a] ∧ SqT K H a (vns hs) ∧ hs.length ≤ 40 ∧ (∀ x ∈ hs, x ≤ hs.length) ∧ ∀ H', Ex H H' → Q (.bl (isTreeF hs)) H'
theorem ok_law_is_tree (T : Txt K mg) : Callee P w K mg base 1 "_law_is_tree" ["_law_hung"] (sp_law_is_tree K) := by
  refine callee_mk T.f_law_is_tree T.g_law_is_tree (fun fd F => ?_) (fun _ _ _ _ _ _ us hl => match us, hl with | [_], _ => rfl)
  refine F.ok sc_law_is_tree (fun vs H Q E h => ?_) (fun cdv A outer s H vs Q E hr h => ?_)
  · obtain ⟨a, hs, rfl, _⟩ := h; rfl
  · obtain ⟨a, hs, rfl, hS, h40, hle, q⟩ := h
    have q := q H (Ex.refl H)
    have ule : ∀ {b : Nat}, b ≤ hs.length → ∀ j, up hs j b ≤ hs.length := fun {b} hb j => by
      induction j generalizing b with
      | zero => exact hb
      | succ j ih => exact ih (par_le hle b)
    refine ⟨_, (pss_cons (ps_for PassesOwn.never rfl (pi_range2 (by rfl) T.n_range (pa_cons pe_int (pa_cons (pe_op op_add (pe_callB call_len_seq (by rfl) T.n_len PySem.boot_len (pa_cons (pv 0) pa_nil)) pe_int) pa_nil))) (pg_name (i := 1) sc_law_is_tree.nd rfl (Or.inl rfl))
        (pss_cons (ps_set (i := 2) sc_law_is_tree.nd rfl (Or.inl rfl) (pv 1))
      (pss_cons (ps_for PassesOwn.never rfl (pi_range1 (by rfl) T.n_range (pa_cons (pe_callB call_len_seq (by rfl) T.n_len PySem.boot_len (pa_cons (pv 0) pa_nil)) pa_nil)) (pg_name (i := 3) sc_law_is_tree.nd rfl (Or.inl rfl))
        (pss_one (ps_if (pt_cmpR op_ne (pv 2) pe_int (nomark _)) (pss_one (ps_set (i := 2) sc_law_is_tree.nd rfl (Or.inl rfl) (pe_ix ix_tup (pv 0) (pe_op op_sub (pv 2) pe_int) (fun _ _ => rfl)))) pss_nil)))
      (pss_one (ps_if (pt_cmpR op_ne (pv 2) pe_int (nomark _)) (pss_one (ps_ret pe_bl)) pss_nil)))))
      (pss_one (ps_ret pe_bl))), ?_⟩
    refine ⟨.ref a, rfl, a, _, rfl, .inr hS, _, _, rfl, rfl, _, _, rfl, ⟨by omega, by omega, ?_, ?_⟩, ?_⟩
    · rw [List.length_map]; omega
    · rw [List.length_map]; omega
    refine forR1 (n := hs.length) (by rw [List.length_map]; omega) (fun i σ H' => H' = H ∧ (∃ y1 y2 y3, σ = [some (.ref a), y1, y2, y3]) ∧ ∀ j, j < i → up hs hs.length (j + 1) = 0) ⟨rfl, ⟨none, none, none, rfl⟩, fun j hj => by omega⟩ ?_ ?_
    · rintro i σ H' hi ⟨rfl, ⟨y1, y2, y3, rfl⟩, hj⟩
      refine ⟨_, rfl, ?_⟩
      refine ⟨.ref a, rfl, a, _, rfl, .inr hS, _, rfl, ?_, ?_, ?_⟩
      · rw [List.length_map]; omega
      · rw [List.length_map]; omega
      refine forR0 (n := hs.length) (by rw [List.length_map]; omega) (fun j σ H'' => H'' = H' ∧ ∃ y3, σ = [some (.ref a), some (VI (i + 1)), some (VI (up hs j (i + 1))), y3]) ⟨rfl, _, rfl⟩ ?_ ?_
      · rintro j σ H'' hjn ⟨rfl, y3, rfl⟩
        refine ⟨_, rfl, rfl, _, rfl, ?_⟩
        have ed : (!decide (VI (up hs j (i + 1)) = V.int 0)) = decide (up hs j (i + 1) ≠ 0) := by
          rw [show (V.int 0) = V.int ((0 : Nat) : Int) from rfl, dec_vI]; simp
        rw [ed]
        refine ite2 (fun h => ?_) (fun h => ?_)
        · have h := of_decide_eq_true h
          refine ⟨.ref a, rfl, _, rfl, _, _, rfl, rfl, a, _, _, _, rfl, rfl, hS, at_par h (ule (by omega) j), rfl, some (VI j), ?_⟩
          rw [up_succ]
          rfl
        · have h : up hs j (i + 1) = 0 := Decidable.of_not_not fun z => h (decide_eq_true z)
          refine ⟨rfl, some (VI j), ?_⟩
          rw [up_succ, h, par0]
          rfl
      · rintro σ H'' ⟨rfl, y3, rfl⟩
        refine ⟨_, rfl, rfl, _, rfl, ?_⟩
        have ed : (!decide (VI (up hs hs.length (i + 1)) = V.int 0)) = decide (up hs hs.length (i + 1) ≠ 0) := by
          rw [show (V.int 0) = V.int ((0 : Nat) : Int) from rfl, dec_vI]; simp
        rw [ed]
        refine ite2 (fun h => ?_) (fun h => ?_)
        · have h := of_decide_eq_true h
          have e : isTreeF hs = false := by
            cases hc : isTreeF hs with
            | false => rfl
            | true =>
              have := List.all_eq_true.mp hc i (List.mem_range.mpr hi)
              exact absurd (of_decide_eq_true this) h
          rw [e] at q
          exact q
        · have h : up hs hs.length (i + 1) = 0 := Decidable.of_not_not fun z => h (decide_eq_true z)
          refine ⟨rfl, ⟨_, _, _, rfl⟩, fun j hj' => ?_⟩
          by_cases e : j = i
          · rw [e]; exact h
          · exact hj j (by omega)
    · rintro σ H' ⟨rfl, ⟨y1, y2, y3, rfl⟩, hj⟩
      have e : isTreeF hs = true := List.all_eq_true.mpr fun i hi => decide_eq_true (hj i (List.mem_range.mp hi))
      rw [e] at q
      exact q
def sp_law_trees (K : PySem.W.Frag) : Sp := fun vs H Q _ => ∃ (m : Nat), vs = [VI m] ∧ m ≤ 4 ∧ ∀ l ys H', H l = none → Ex H H' → H' l = some (.lst ys) → TupsAt K H' (treesF m) ys → Q (.ref l) H'
theorem ok_law_trees (T : Txt K mg) : Callee P w K mg base 2 "_law_trees" ["_law_many"] (sp_law_trees K) := by
  refine callee_mk T.f_law_trees T.g_law_trees (fun fd F => ?_) (fun _ _ _ _ _ _ us hl => match us, hl with | [_], _ => rfl)
  refine F.ok sc_law_trees (fun vs H Q E h => ?_) (fun cdv A outer s H vs Q E hr h => ?_)
  · obtain ⟨m, rfl, _⟩ := h; rfl
  · obtain ⟨m, rfl, hm4, q⟩ := h
    have rlen : ∀ s, s ≤ m → (rowsF m s).length ≤ 625 := fun s hs => Nat.le_trans (rows_len m s) (pow_small (b := 5) (t := 4) (by omega) (by omega) (by omega))
    refine ⟨_, (pss_cons (ps_set (i := 1) sc_law_trees.nd rfl (Or.inl rfl) (pe_lst (pa_cons (pe_tup pa_nil) pa_nil)))
      (pss_cons (ps_for PassesOwn.never rfl (pi_range2 (by rfl) T.n_range (pa_cons pe_int (pa_cons (pe_op op_add (pv 0) pe_int) pa_nil))) (pg_name (i := 2) sc_law_trees.nd rfl (Or.inr rfl))
        (pss_cons (ps_set (i := 3) sc_law_trees.nd rfl (Or.inl rfl) (pe_lst pa_nil))
      (pss_cons (ps_for PassesOwn.never rfl (pi_list (pv 1)) (pg_name (i := 4) sc_law_trees.nd rfl (Or.inr rfl))
        (pss_one (ps_expr (pe_bm PySem.F.plainAttrs_list PySem.F.slot_list_extend PySem.F.type_list_extend mt_extend (pv 3) (pa_cons (pe_lc (own := [("_law_place", 5)]) (g := (gName 5))  (by rfl) sc_law_trees.nd (pi_range1 (by rfl) T.n_range (pa_cons (pe_op op_add (pv 0) pe_int) pa_nil)) (blkOk_by (own := [("_law_place", 5)]) (N := N_law_trees) (sc := defScope s_law_trees) (by decide +kernel)) (fun _ _ _ _ _ => (pg_name (i := 5) sc_law_trees.nd rfl (Or.inl rfl))) (fun _ _ _ _ _ => (pts_one (pt_cmpR op_ne (pv 5) (pv 2) (nomark _)))) (fun _ _ _ _ _ => (pe_op (op_catA_K K) (pv 4) (pe_tup (pa_cons (pv 5) pa_nil))))) pa_nil)))))
      (pss_one (ps_set (i := 1) sc_law_trees.nd rfl (Or.inl rfl) (pv 3))))))
      (pss_one (ps_ret (pe_lc (own := [("_law_hung", 6)]) (g := (gName 6))  (by rfl) sc_law_trees.nd (pi_list (pv 1)) (blkOk_by (own := [("_law_hung", 6)]) (N := N_law_trees) (sc := defScope s_law_trees) (by decide +kernel)) (fun _ _ _ _ _ => (pg_name (i := 6) sc_law_trees.nd rfl (Or.inl rfl))) (fun _ _ _ _ _ => (pts_one (pt_val (pe_cal (ok_law_is_tree T) (hr.mono (by decide)) (by rfl) (pa_cons (pv 6) pa_nil))))) (fun _ _ _ _ _ => (pv 6))))))), ?_⟩
    refine ⟨Nat.zero_le _, fun t0 ht0 => ⟨(by show 1 ≤ sizeLine; decide), fun l0 hl0 => ?_⟩⟩
    have e1 : Ex H (upd (upd H t0 (.tup [])) l0 (.lst [.ref t0])) := (Ex.new ht0).trans (Ex.new hl0)
    have hl1 : (upd (upd H t0 (.tup [])) l0 (.lst [.ref t0])) l0 = some (.lst [.ref t0]) := upd_same
    have ht1 : (upd (upd H t0 (.tup [])) l0 (.lst [.ref t0])) t0 = some (.tup []) := Ex.new hl0 _ _ upd_same
    have b0 : H l0 = none := fresh_back (Ex.new ht0) hl0
    generalize upd (upd H t0 (.tup [])) l0 (.lst [.ref t0]) = H1 at e1 hl1 ht1
    refine ⟨_, rfl, _, _, rfl, rfl, _, _, rfl, ⟨by omega, by omega, by omega, by omega⟩, ?_⟩
    refine forR1 (n := m) (by omega) (fun i σ H' => ∃ (lf : Addr) (ys : List V) (y2 y3 y4 y5 y6 : Option V), σ = [some (VI m), some (.ref lf), y2, y3, y4, y5, y6] ∧ Ex H H' ∧ H' lf = some (.lst ys) ∧ H lf = none ∧ TupsAt K H' (rowsF m i) ys)
      ⟨l0, [.ref t0], none, none, none, none, none, rfl, e1, hl1, b0, .cons ⟨t0, rfl, .inl (.inl ht1)⟩ .nil⟩ ?_ ?_
    · rintro i σ H2 hi ⟨lf, ys, y2, y3, y4, y5, y6, rfl, e2, hF2, bf, tF2⟩
      refine ⟨Nat.zero_le _, fun lg hlg => ?_⟩
      have e3 := e2.trans (Ex.new (o := .lst []) hlg)
      have hF3 := Ex.new (o := .lst []) hlg _ _ hF2
      have tF3 := tF2.mono (Ex.new (o := .lst []) hlg)
      have hG3 : (upd H2 lg (.lst [])) lg = some (.lst []) := upd_same
      have bg : H lg = none := fresh_back e2 hlg
      have nfg : lf ≠ lg := ne_of_none hF2 hlg
      generalize upd H2 lg (.lst []) = H3 at e3 hF3 tF3 hG3
      -- for row in found
      have hyl := paired_len tF3
      refine ⟨.ref lf, rfl, lf, rfl, ⟨_, .inl (.inl hF3)⟩, ?_⟩
      refine for_list (K := K) (xs := ys) (fun j σ H' => ∃ (zs : List V) (y4 y5 y6 : Option V), σ = [some (VI m), some (.ref lf), some (VI (i + 1)), some (.ref lg), y4, y5, y6] ∧ Ex H H' ∧ H' lf = some (.lst ys) ∧ TupsAt K H' (rowsF m i) ys ∧ H' lg = some (.lst zs) ∧ TupsAt K H' (((rowsF m i).take j).flatMap fun r => ((List.range (m + 1)).filter fun p => decide (p ≠ i + 1)).map fun p => r ++ [p]) zs)
        ⟨[], y4, y5, y6, rfl, e3, hF3, tF3, hG3, .nil⟩ (fun j σ H' _ ⟨_, _, _, _, _, _, h, _⟩ => .inl (.inl h)) ?_ ?_
      · rintro j y σ H4 hy ⟨zs, y4, y5, y6, rfl, e4, hF4, tF4, hG4, tG4⟩
        obtain ⟨r, hr', a, rfl, ha⟩ := paired_at tF4 hy
        have hrl := (rows_ok (List.mem_of_getElem? hr')).1
        refine ⟨.ref lg, rfl, .inl ⟨rfl, _, .inl (.inl hG4)⟩, ?_⟩
        refine ⟨_, rfl, _, _, rfl, rfl, _, rfl, by omega, by omega, ?_⟩
        refine lcR0 (n := m + 1) (by omega) (f := fun p => decide (p ≠ i + 1)) (E := fun p y H => ∃ a, y = .ref a ∧ SqT K H a (vns (r ++ [p]))) (fun p y H H' e ⟨a, h1, h2⟩ => ⟨a, h1, ex_t e h2⟩) (by omega) (fun D p H' hD e hys hp Qy Qn qy qn => ?_) (fun D ws H5 hD e5 hy5 hp5 => ?_)
        · obtain ⟨vs, hys⟩ := hys
          refine ⟨rfl, _, rfl, _, rfl, rfl, _, rfl, ?_⟩
          have ed : (!decide (VI p = VI (i + 1))) = decide (p ≠ i + 1) := by rw [dec_vI]; simp
          rw [ed]
          refine ite2 (fun h => ?_) (fun h => ?_)
          · refine ⟨.ref a, rfl, _, rfl, (by show 1 ≤ sizeLine; decide), fun t ht => ?_⟩
            have e6 := Ex.new (o := .tup [VI p]) ht
            refine cat_go (K := K) (a := a) (b := t) (xs := vns r) (ys := [VI p]) (ex_t (e.trans e6) ha) (.inl (.inl upd_same)) (by rw [List.length_map, List.length_singleton]; omega) (fun b H7 e7 hb => ?_)
            refine qy _ _ (e6.trans e7) h ⟨b, rfl, seqT_del ((e6.trans e7) _ _ hys) ?_⟩
            rw [vns_app]
            exact hb
          · exact qn _ (by simpa using h) (Ex.refl _)
        · have tD : TupsAt K H5 (((List.range (m + 1)).filter fun p => decide (p ≠ i + 1)).map fun p => r ++ [p]) ws := by
            refine paired_imp (paired_map (f := fun p => r ++ [p]) (F := fun r y => ∃ a, y = V.ref a ∧ SqT K (del H5 D) a (vns r)) hp5) fun _ _ _ ⟨a, h1, h2⟩ => ⟨a, h1, ex_t ex_del h2⟩
          have hG5 := e5 _ _ hG4
          have hzl : zs.length ≤ 5 * 625 := by
            rw [← paired_len tG4]
            have h1 : (((rowsF m i).take j).flatMap fun r => ((List.range (m + 1)).filter fun p => decide (p ≠ i + 1)).map fun p => r ++ [p]).length ≤ 5 * ((rowsF m i).take j).length := flat_len fun r _ => by
              rw [List.length_map]; exact Nat.le_trans (filter_range_len _ _) (by omega)
            have h2 : ((rowsF m i).take j).length ≤ 625 := by rw [List.length_take]; have := rlen i (by omega); omega
            omega
          have hwl : ws.length ≤ 5 := by
            rw [← paired_len hp5]; exact Nat.le_trans (filter_range_len _ _) (by omega)
          refine ⟨lg, D, zs, ws, rfl, rfl, hG5, hy5, sz_of (by omega), ?_⟩
          refine ⟨zs ++ ws, _, _, _, rfl, (e4.trans e5).mut bg, by rw [upd_ne nfg]; exact e5 _ _ hF4, (tF4.mono e5).upd hG5, upd_same, ?_⟩
          rw [flat_snoc hr']
          exact TupsAt.app ((tG4.mono e5).upd hG5) (tD.upd hG5)
      · rintro σ H4 ⟨zs, y4, y5, y6, rfl, e4, hF4, tF4, hG4, tG4⟩
        rw [← hyl, List.take_length] at tG4
        exact ⟨.ref lg, rfl, lg, zs, _, _, _, _, _, rfl, e4, hG4, bg, tG4⟩
    · rintro σ H2 ⟨lf, ys, y2, y3, y4, y5, y6, rfl, e2, hF2, bf, tF2⟩
      have hyl := paired_len tF2
      have hrl := rlen m (Nat.le_refl _)
      refine ⟨.ref lf, rfl, lf, rfl, ⟨_, .inl (.inl hF2)⟩, ?_⟩
      refine lcL (K := K) (xs := ys) (.inl (.inl hF2)) (f := fun j => isTreeF ((rowsF m m).getD j [])) (E := fun j y H => ∃ a, y = .ref a ∧ SqT K H a (vns ((rowsF m m).getD j []))) (fun j y H H' e ⟨a, h1, h2⟩ => ⟨a, h1, ex_t e h2⟩) (by omega) (fun D j z H' hD e hys hz Qy Qn qy qn => ?_) (fun D ws H5 hD e5 hy5 hp5 => ?_)
      · obtain ⟨vs, hys⟩ := hys
        obtain ⟨r, hr', a, rfl, ha⟩ := paired_at (tF2.mono e) hz
        obtain ⟨h1, h2⟩ := rows_ok (List.mem_of_getElem? hr')
        have er : (rowsF m m).getD j [] = r := by rw [List.getD_eq_getElem?_getD, hr']; rfl
        rw [er] at qy qn
        refine ⟨rfl, _, rfl, a, r, rfl, ha, by omega, fun x hx => by rw [h1]; exact h2 x hx, fun H4 e4 => ⟨_, rfl, ?_⟩⟩
        refine ite2 (fun h => ?_) (fun h => ?_)
        · exact ⟨_, rfl, qy _ _ e4 h ⟨a, rfl, seqT_del (e4 _ _ hys) (ex_t e4 ha)⟩⟩
        · exact qn _ (by simpa using h) e4
      · refine q D ws H5 (fresh_back e2 hD) (e2.trans e5) hy5 ?_
        rw [← hyl] at hp5
        have h6 := paired_map (f := fun j => (rowsF m m).getD j []) (F := fun r y => ∃ a, y = V.ref a ∧ SqT K (del H5 D) a (vns r)) hp5
        rw [filt_idxL isTreeF] at h6
        exact paired_imp h6 fun _ _ _ ⟨a, h1, h2⟩ => ⟨a, h1, ex_t ex_del h2⟩
def sp_law_lots (K : PySem.W.Frag) : Sp := fun vs H Q _ => ∃ (m s : Nat), vs = [VI m, VI s] ∧ m ≤ 5 ∧ s ≤ 5 ∧ ∀ l ys H', H l = none → Ex H H' → H' l = some (.lst ys) → TupsAt K H' (lotsF m s) ys → Q (.ref l) H'
theorem ok_law_lots (T : Txt K mg) : Callee P w K mg base 1 "_law_lots" ["_law_many", "_law_size"] (sp_law_lots K) := by
  refine callee_mk T.f_law_lots T.g_law_lots (fun fd F => ?_) (fun _ _ _ _ _ _ us hl => match us, hl with | [_, _], _ => rfl)
  refine F.ok sc_law_lots (fun vs H Q E h => ?_) (fun cdv A outer s H vs Q E hr h => ?_)
  · obtain ⟨m, s, rfl, _⟩ := h; rfl
  · obtain ⟨m, st, rfl, hm5, hs5, q⟩ := h
    have rlen : ∀ s, s ≤ st → (lotsF m s).length ≤ 3125 := fun s hs => Nat.le_trans (lots_len m s) (pow_small (b := 5) (t := 5) (by omega) (by omega) (by omega))
    refine ⟨_, (pss_cons (ps_set (i := 2) sc_law_lots.nd rfl (Or.inl rfl) (pe_lst (pa_cons (pe_tup pa_nil) pa_nil)))
      (pss_cons (ps_for PassesOwn.never rfl (pi_range1 (by rfl) T.n_range (pa_cons (pv 1) pa_nil)) (pg_name (i := 3) sc_law_lots.nd rfl (Or.inl rfl))
        (pss_cons (ps_set (i := 4) sc_law_lots.nd rfl (Or.inl rfl) (pe_lst pa_nil))
      (pss_cons (ps_for PassesOwn.never rfl (pi_list (pv 2)) (pg_name (i := 5) sc_law_lots.nd rfl (Or.inr rfl))
        (pss_one (ps_expr (pe_bm PySem.F.plainAttrs_list PySem.F.slot_list_extend PySem.F.type_list_extend mt_extend (pv 4) (pa_cons (pe_lc (own := [("_law_block", 6)]) (g := (gName 6))  (by rfl) sc_law_lots.nd (pi_range2 (by rfl) T.n_range (pa_cons pe_int (pa_cons (pe_op op_add (pv 0) pe_int) pa_nil))) (blkOk_by (own := [("_law_block", 6)]) (N := N_law_lots) (sc := defScope s_law_lots) (by decide +kernel)) (fun _ _ _ _ _ => (pg_name (i := 6) sc_law_lots.nd rfl (Or.inl rfl))) (fun _ _ _ _ _ => (pts_one (PW.pt (pw_or (pt_cmpR op_eq (pe_callB (call_len_seq_K K) (by rfl) T.n_len PySem.boot_len (pa_cons (pv 5) pa_nil)) pe_int (nomark _)) (pw_or1 (pt_cmpR op_gt (pv 6) (pe_ix (ix_tup_K K) (pv 5) (pe_un un_neg pe_int) (fun _ _ => rfl)) (nomark _))))))) (fun _ _ _ _ _ => (pe_op (op_catA_K K) (pv 5) (pe_tup (pa_cons (pv 6) pa_nil))))) pa_nil)))))
      (pss_one (ps_set (i := 2) sc_law_lots.nd rfl (Or.inl rfl) (pv 4))))))
      (pss_one (ps_ret (pv 2))))), ?_⟩
    refine ⟨Nat.zero_le _, fun t0 ht0 => ⟨(by show 1 ≤ sizeLine; decide), fun l0 hl0 => ?_⟩⟩
    have e1 : Ex H (upd (upd H t0 (.tup [])) l0 (.lst [.ref t0])) := (Ex.new ht0).trans (Ex.new hl0)
    have hl1 : (upd (upd H t0 (.tup [])) l0 (.lst [.ref t0])) l0 = some (.lst [.ref t0]) := upd_same
    have ht1 : (upd (upd H t0 (.tup [])) l0 (.lst [.ref t0])) t0 = some (.tup []) := Ex.new hl0 _ _ upd_same
    have b0 : H l0 = none := fresh_back (Ex.new ht0) hl0
    generalize upd (upd H t0 (.tup [])) l0 (.lst [.ref t0]) = H1 at e1 hl1 ht1
    refine ⟨_, rfl, _, rfl, by omega, by omega, ?_⟩
    refine forR0 (n := st) (by omega) (fun i σ H' => ∃ (lf : Addr) (ys : List V) (y3 y4 y5 y6 : Option V), σ = [some (VI m), some (VI st), some (.ref lf), y3, y4, y5, y6] ∧ Ex H H' ∧ H' lf = some (.lst ys) ∧ H lf = none ∧ TupsAt K H' (lotsF m i) ys)
      ⟨l0, [.ref t0], none, none, none, none, rfl, e1, hl1, b0, .cons ⟨t0, rfl, .inl (.inl ht1)⟩ .nil⟩ ?_ ?_
    · rintro i σ H2 hi ⟨lf, ys, y3, y4, y5, y6, rfl, e2, hF2, bf, tF2⟩
      refine ⟨Nat.zero_le _, fun lg hlg => ?_⟩
      have e3 := e2.trans (Ex.new (o := .lst []) hlg)
      have hF3 := Ex.new (o := .lst []) hlg _ _ hF2
      have tF3 := tF2.mono (Ex.new (o := .lst []) hlg)
      have hG3 : (upd H2 lg (.lst [])) lg = some (.lst []) := upd_same
      have bg : H lg = none := fresh_back e2 hlg
      have nfg : lf ≠ lg := ne_of_none hF2 hlg
      generalize upd H2 lg (.lst []) = H3 at e3 hF3 tF3 hG3
      have hyl := paired_len tF3
      refine ⟨.ref lf, rfl, lf, rfl, ⟨_, .inl (.inl hF3)⟩, ?_⟩
      refine for_list (K := K) (xs := ys) (fun j σ H' => ∃ (zs : List V) (y5 y6 : Option V), σ = [some (VI m), some (VI st), some (.ref lf), some (VI i), some (.ref lg), y5, y6] ∧ Ex H H' ∧ H' lf = some (.lst ys) ∧ TupsAt K H' (lotsF m i) ys ∧ H' lg = some (.lst zs) ∧ TupsAt K H' (((lotsF m i).take j).flatMap fun (r : List Nat) => ((List.range m).filter fun (p : Nat) => decide (r.getLastD 0 < p + 1)).map fun (p : Nat) => r ++ [p + 1]) zs)
        ⟨[], y5, y6, rfl, e3, hF3, tF3, hG3, .nil⟩ (fun j σ H' _ ⟨_, _, _, _, _, h, _⟩ => .inl (.inl h)) ?_ ?_
      · rintro j y σ H4 hy ⟨zs, y5, y6, rfl, e4, hF4, tF4, hG4, tG4⟩
        obtain ⟨r, hr', a, rfl, ha⟩ := paired_at tF4 hy
        have hrl := (lots_ok (List.mem_of_getElem? hr')).1
        refine ⟨.ref lg, rfl, .inl ⟨rfl, _, .inl (.inl hG4)⟩, ?_⟩
        refine ⟨_, rfl, _, _, rfl, rfl, _, _, rfl, ⟨by omega, by omega, by omega, by omega⟩, ?_⟩
        refine lcR1 (n := m) (by omega) (f := fun p => decide (r.getLastD 0 < p + 1)) (E := fun p y H => ∃ a, y = .ref a ∧ SqT K H a (vns (r ++ [p + 1]))) (fun p y H H' e ⟨a, h1, h2⟩ => ⟨a, h1, ex_t e h2⟩) (by omega) (fun D p H' hD e hys hp Qy Qn qy qn => ?_) (fun D ws H5 hD e5 hy5 hp5 => ?_)
        · obtain ⟨vs, hys⟩ := hys
          refine ⟨rfl, .ref a, rfl, a, _, rfl, .inr (ex_t e ha), rfl, _, rfl, ?_⟩
          have go : ∀ H6, Ex H' H6 → decide (r.getLastD 0 < p + 1) = true → tOp (rCatA K) (tVar 5) (tTup (tCons (tVar 6) tNil)) [some (VI m), some (VI st), some (.ref lf), some (VI i), some (.ref lg), some (.ref a), some (VI (p + 1))] H6 Qy := fun H6 e6 h => by
            refine ⟨.ref a, rfl, _, rfl, (by show 1 ≤ sizeLine; decide), fun t ht => ?_⟩
            have e7 := Ex.new (o := .tup [VI (p + 1)]) ht
            refine cat_go (K := K) (a := a) (b := t) (xs := vns r) (ys := [VI (p + 1)]) (ex_t ((e.trans e6).trans e7) ha) (.inl (.inl upd_same)) (by rw [List.length_map, List.length_singleton]; omega) (fun b H8 e8 hb => ?_)
            refine qy _ _ ((e6.trans e7).trans e8) h ⟨b, rfl, seqT_del (((e6.trans e7).trans e8) _ _ hys) ?_⟩
            rw [vns_app]
            exact hb
          have ed : decide (V.int (((vns r).length : Nat) : Int) = V.int 0) = decide (r.length = 0) := by
            rw [show (V.int 0) = V.int ((0 : Nat) : Int) from rfl, dec_vI, List.length_map]
          rw [ed]
          refine ite2 (fun h => ?_) (fun h => ?_)
          · have h := of_decide_eq_true h
            refine iteT (go H' (Ex.refl _) (decide_eq_true ?_))
            rw [List.length_eq_zero_iff.mp h]
            show 0 < p + 1
            omega
          · have h : ¬ r.length = 0 := fun z => h (decide_eq_true z)
            obtain ⟨acc, x, rfl⟩ : ∃ acc x, r = acc ++ [x] := ⟨r.dropLast, r.getLast (fun z => h (by rw [z]; rfl)), (List.dropLast_concat_getLast _).symm⟩
            have eL : (acc ++ [x]).getLastD 0 = x := by simp
            refine ⟨_, rfl, .ref a, rfl, 1, rfl, a, _, -1, _, rfl, rfl, ex_t e ha, (by rw [vns_app]; exact atI_last (vns acc) (VI x)), _, _, rfl, rfl, _, rfl, ?_⟩
            have ed2 : decide ((x : Int) < ((p + 1 : Nat) : Int)) = decide ((acc ++ [x]).getLastD 0 < p + 1) := by
              rw [eL]; exact decide_eq_decide.mpr (by omega)
            rw [ed2]
            refine ite2 (fun h => ?_) (fun h => ?_)
            · exact go H' (Ex.refl _) h
            · exact qn _ (by simpa using h) (Ex.refl _)
        · have tD : TupsAt K H5 (((List.range m).filter fun p => decide (r.getLastD 0 < p + 1)).map fun p => r ++ [p + 1]) ws := by
            refine paired_imp (paired_map (f := fun p => r ++ [p + 1]) (F := fun r y => ∃ a, y = V.ref a ∧ SqT K (del H5 D) a (vns r)) hp5) fun _ _ _ ⟨a, h1, h2⟩ => ⟨a, h1, ex_t ex_del h2⟩
          have hG5 := e5 _ _ hG4
          have hzl : zs.length ≤ 5 * 3125 := by
            rw [← paired_len tG4]
            have h1 : (((lotsF m i).take j).flatMap fun (r : List Nat) => ((List.range m).filter fun (p : Nat) => decide (r.getLastD 0 < p + 1)).map fun (p : Nat) => r ++ [p + 1]).length ≤ 5 * ((lotsF m i).take j).length := flat_len fun r _ => by
              rw [List.length_map]; exact Nat.le_trans (filter_range_len _ _) (by omega)
            have h2 : ((lotsF m i).take j).length ≤ 3125 := by rw [List.length_take]; have := rlen i (by omega); omega
            omega
          have hwl : ws.length ≤ 5 := by
            rw [← paired_len hp5]; exact Nat.le_trans (filter_range_len _ _) (by omega)
          refine ⟨lg, D, zs, ws, rfl, rfl, hG5, hy5, sz_of (by omega), ?_⟩
          refine ⟨zs ++ ws, _, _, rfl, (e4.trans e5).mut bg, by rw [upd_ne nfg]; exact e5 _ _ hF4, (tF4.mono e5).upd hG5, upd_same, ?_⟩
          rw [flat_snoc hr']
          exact TupsAt.app ((tG4.mono e5).upd hG5) (tD.upd hG5)
      · rintro σ H4 ⟨zs, y5, y6, rfl, e4, hF4, tF4, hG4, tG4⟩
        rw [← hyl, List.take_length] at tG4
        exact ⟨.ref lg, rfl, lg, zs, _, _, _, _, rfl, e4, hG4, bg, tG4⟩
    · rintro σ H2 ⟨lf, ys, y3, y4, y5, y6, rfl, e2, hF2, bf, tF2⟩
      exact ⟨_, rfl, q lf ys H2 bf e2 hF2 tF2⟩
def sp_law_is_too_much (K : PySem.W.Frag) : Sp := fun vs H Q _ => ∃ (va : Addr) (u d s : Nat), vs = [.ref va, VI s] ∧ SqT K H va [VI u, VI d] ∧ u ≤ 4 ∧ d ≤ 2 ∧ s ≤ 5 ∧ searchF u d s = some true ∧ ∀ H', Ex H H' → Q (.bl true) H'
theorem ok_law_is_too_much (T : Txt K mg) : Callee P w K mg base 9 "_law_is_too_much" ["_law_view_here", "_law_size"] (sp_law_is_too_much K) := by
  refine callee_mk T.f_law_is_too_much T.g_law_is_too_much (fun fd F => ?_) (fun _ _ _ _ _ _ us hl => match us, hl with | [_, _], _ => rfl)
  refine F.ok sc_law_is_too_much (fun vs H Q E h => ?_) (fun cdv A outer s H vs Q E hr h => ?_)
  · obtain ⟨va, u, d, s, rfl, _⟩ := h; rfl
  · obtain ⟨va, u, d, st, rfl, hV, hu4, hd2, hs5, hF, q⟩ := h
    refine ⟨_, (pss_cons (ps_for PassesOwn.never rfl (pi_list (pe_cal (ok_law_trees T) (hr.mono (by decide)) (by rfl) (pa_cons (pe_op op_add (pe_ix ix_tup (pv 0) pe_int (fun _ _ => rfl)) pe_int) pa_nil))) (pg_name (i := 2) sc_law_is_too_much.nd rfl (Or.inl rfl))
        (pss_one (ps_for PassesOwn.never rfl (pi_list (pe_cal (ok_law_lots T) (hr.mono (by decide)) (by rfl) (pa_cons (pe_op op_add (pe_ix ix_tup (pv 0) pe_int (fun _ _ => rfl)) pe_int) (pa_cons (pv 1) pa_nil)))) (pg_name (i := 3) sc_law_is_too_much.nd rfl (Or.inl rfl))
        (pss_one (ps_if (pt_cmpR op_gt (pe_cal (ok_law_left T) (hr.mono (by decide)) (by rfl) (pa_cons (pv 2) (pa_cons (pv 0) (pa_cons (pv 3) pa_nil)))) pe_int (nomark _)) (pss_one (ps_ret pe_bl)) pss_nil)))))
      (pss_one (ps_ret pe_bl))), ?_⟩
    refine ⟨.ref va, rfl, va, _, _, _, rfl, rfl, hV, atI_nat (j := 1) rfl, _, _, rfl, rfl, d + 2, rfl, by omega, fun tl ys H1 htl e1 hT1 tT1 => ?_⟩
    refine ⟨tl, rfl, ⟨_, .inl (.inl hT1)⟩, ?_⟩
    have hyl := paired_len tT1
    refine for_list (K := K) (xs := ys) (fun i σ H' => Ex H1 H' ∧ (∃ y2 y3, σ = [some (.ref va), some (VI st), y2, y3]) ∧ searchT u d (lotsF (d + 2) st) ((treesF (d + 2)).drop i) = some true)
      ⟨Ex.refl _, ⟨none, none, rfl⟩, hF⟩ (fun i σ H' _ h => .inl (.inl (h.1 _ _ hT1))) ?_ ?_
    · rintro i y σ H2 hy ⟨e2, ⟨y2, y3, rfl⟩, hS⟩
      obtain ⟨hs, hhs, a, rfl, ha⟩ := paired_at (tT1.mono e2) hy
      obtain ⟨Tr, hlen⟩ := trees_ok (by omega) (by omega) (List.mem_of_getElem? hhs)
      have hdr : (treesF (d + 2)).drop i = hs :: (treesF (d + 2)).drop (i + 1) := by
        obtain ⟨h1, h2⟩ := List.getElem?_eq_some_iff.mp hhs
        rw [← h2]; exact List.drop_eq_getElem_cons h1
      rw [hdr] at hS
      have e12 := e1.trans e2
      refine ⟨.ref va, rfl, va, _, _, _, rfl, rfl, ex_t e12 hV, atI_nat (j := 1) rfl, _, _, rfl, rfl, _, rfl, d + 2, st, rfl, by omega, hs5, fun ll zs H3 hll e3 hL3 tL3 => ?_⟩
      refine ⟨ll, rfl, ⟨_, .inl (.inl hL3)⟩, ?_⟩
      have hzl := paired_len tL3
      have e13 := e12.trans e3
      obtain ⟨b, hb, hb2⟩ : ∃ b, searchL hs u d (lotsF (d + 2) st) = some b ∧ (b = false → searchT u d (lotsF (d + 2) st) ((treesF (d + 2)).drop (i + 1)) = some true) := by
        unfold searchT at hS
        cases hc : searchL hs u d (lotsF (d + 2) st) with
        | none => rw [hc] at hS; cases hS
        | some b =>
          refine ⟨b, rfl, fun e => ?_⟩
          subst e
          rw [hc] at hS
          exact hS
      refine for_list (K := K) (xs := zs) (fun j σ H' => Ex H3 H' ∧ (∃ y3, σ = [some (.ref va), some (VI st), some (.ref a), y3]) ∧ searchL hs u d ((lotsF (d + 2) st).drop j) = some b)
        ⟨Ex.refl _, ⟨_, rfl⟩, hb⟩ (fun j σ H' _ h => .inl (.inl (h.1 _ _ hL3))) ?_ ?_
      · rintro j z σ H4 hz ⟨e4, ⟨y3, rfl⟩, hS4⟩
        obtain ⟨l, hl, la, rfl, hla⟩ := paired_at (tL3.mono e4) hz
        obtain ⟨h1, h2, h3⟩ := lots_ok (List.mem_of_getElem? hl)
        have hdr : (lotsF (d + 2) st).drop j = l :: (lotsF (d + 2) st).drop (j + 1) := by
          obtain ⟨h1, h2⟩ := List.getElem?_eq_some_iff.mp hl
          rw [← h2]; exact List.drop_eq_getElem_cons h1
        rw [hdr] at hS4
        unfold searchL at hS4
        cases hm : leftF hs u d l with
        | none => rw [hm] at hS4; cases hS4
        | some mm =>
          rw [hm] at hS4
          dsimp only at hS4
          have e14 := e13.trans e4
          refine ⟨_, rfl, _, rfl, _, rfl, a, va, la, hs, u, d, l, mm, rfl, ex_t (e3.trans e4) ha, Tr, ex_t e14 hV, hu4, by omega, hla, h2, by omega, fun x hx => ?_, hm, fun H5 e5 => ?_⟩
          · obtain ⟨x1, x2, _⟩ := h3 x hx
            exact ⟨x1, by omega⟩
          refine ⟨_, _, rfl, rfl, _, rfl, ite2 (fun h => ?_) (fun h => ?_)⟩
          · exact q H5 (e14.trans e5)
          · have h : ¬ 1 < mm := fun z => h (decide_eq_true (by omega))
            rw [if_neg h] at hS4
            exact ⟨e4.trans e5, ⟨_, rfl⟩, hS4⟩
      · rintro σ H4 ⟨e4, ⟨y3, rfl⟩, hS4⟩
        rw [← hzl, List.drop_length] at hS4
        have hS4 : some false = some b := hS4
        cases hS4
        exact ⟨(e2.trans e3).trans e4, ⟨_, _, rfl⟩, hb2 rfl⟩
    · rintro σ H2 ⟨e2, ⟨y2, y3, rfl⟩, hS⟩
      rw [← hyl, List.drop_length] at hS
      cases hS
theorem perm_cast {ns : List Int} {l : List Nat} (h : ns.Perm (l.map fun p : Nat => (p : Int))) : ∃ k : List Nat, ns = k.map (fun p : Nat => (p : Int)) ∧ k.Perm l := by
  refine ⟨ns.map Int.toNat, ?_, ?_⟩
  · rw [List.map_map]
    have : ∀ x ∈ ns, ((fun p : Nat => (p : Int)) ∘ Int.toNat) x = x := fun x hx => by
      obtain ⟨p, _, rfl⟩ := List.mem_map.mp (h.mem_iff.mp hx)
      rfl
    rw [List.map_congr_left this, List.map_id']
  · have := h.map Int.toNat
    rw [List.map_map] at this
    have e : (Int.toNat ∘ fun p : Nat => (p : Int)) = id := by funext p; rfl
    rw [e, List.map_id] at this
    exact this
def sp_law_some_lot (K : PySem.W.Frag) : Sp := fun vs H Q _ => ∃ (h c : Addr) (m s : Nat), vs = [.ref h, VI m, VI s] ∧ 1 ≤ m ∧ m ≤ 40 ∧ s ≤ m ∧ HandAt H h c ∧ ∀ t lost H', lost.Pairwise (· < ·) → lost.length = s → (∀ x ∈ lost, 1 ≤ x ∧ x ≤ m) → Ex (del H h) H' → HandAt H' h c → H' t = some (.tup (vns lost)) → Q (.ref t) H'
theorem ok_law_some_lot (T : Txt K mg) : Callee P w K mg base 2 "_law_some_lot" ["_law_hand_here", "_law_many", "_law_size"] (sp_law_some_lot K) := by
  refine callee_mk T.f_law_some_lot T.g_law_some_lot (fun fd F => ?_) (fun _ _ _ _ _ _ us hl => match us, hl with | [_, _, _], _ => rfl)
  refine F.ok sc_law_some_lot (fun vs H Q E h => ?_) (fun cdv A outer s H vs Q E hr h => ?_)
  · obtain ⟨h, c, m, s, rfl, _⟩ := h; rfl
  · obtain ⟨h, c, m, st, rfl, hm1, hm40, hsm, hH, q⟩ := h
    obtain ⟨ysc, hC⟩ := hH.cell
    have hB : (del H h) h = none := del_same
    have eB : Ex (del H h) H := ex_del
    have hh : ∃ ys, H h = some (.lst ys) := hH.lst
    generalize del H h = B at hC hB eB q
    refine ⟨_, (pss_cons (ps_set (i := 3) sc_law_some_lot.nd rfl (Or.inl rfl) (pe_listRg (by rfl) (by rfl) T.n_list (prg_2 (by rfl) T.n_range pe_int (pe_op op_add (pv 1) pe_int))))
      (pss_cons (ps_set (i := 4) sc_law_some_lot.nd rfl (Or.inl rfl) (pe_lst pa_nil))
      (pss_cons (ps_for PassesOwn.never rfl (pi_range1 (by rfl) T.n_range (pa_cons (pe_callB (call_min2 rfl) (by rfl) T.n_min (by decide +kernel) (pa_cons (pv 2) (pa_cons (pv 1) pa_nil))) pa_nil)) (pg_name (i := 5) sc_law_some_lot.nd rfl (Or.inl rfl))
        (pss_one (ps_expr (pe_bm PySem.F.plainAttrs_list PySem.F.slot_list_append PySem.F.type_list_append mt_append (pv 4) (pa_cons (pe_bm PySem.F.plainAttrs_list PySem.F.slot_list_pop PySem.F.type_list_pop mt_popAt (pv 3) (pa_cons (pe_cal (ok_law_draw T) (hr.mono (by decide)) (by rfl) (pa_cons (pv 0) (pa_cons (pe_callB call_len_seq (by rfl) T.n_len PySem.boot_len (pa_cons (pv 3) pa_nil)) pa_nil))) pa_nil)) pa_nil)))))
      (pss_one (ps_ret (pe_callTy call_tuple_of (by rfl) T.n_tuple (by decide +kernel) (pa_cons (pe_callB cr_sorted (by rfl) T.n_sorted (by decide +kernel) (pa_cons (pv 4) pa_nil)) pa_nil))))))), ?_⟩
    refine ⟨_, rfl, _, _, rfl, rfl, _, _, rfl, rfl, .of_le (by omega) (by omega) (by omega) (by omega), fun ll hll => ?_⟩
    rw [rgV_one]
    have e1 := eB.trans (Ex.new (o := .lst (vns (range1 m))) hll)
    have hH1 := hH.mono (Ex.new (o := .lst (vns (range1 m))) hll)
    have hL1 : (upd H ll (.lst (vns (range1 m)))) ll = some (.lst (vns (range1 m))) := upd_same
    have nl : ll ≠ h := fun z => by obtain ⟨ys, hy⟩ := hh; rw [z, hy] at hll; cases hll
    have bl : B ll = none := fresh_back eB hll
    generalize upd H ll (.lst (vns (range1 m))) = H1 at e1 hH1 hL1
    refine ⟨Nat.zero_le _, fun lf hlf => ?_⟩
    have e2 := e1.trans (Ex.new (o := .lst []) hlf)
    have hH2 := hH1.mono (Ex.new (o := .lst []) hlf)
    have hL2 : (upd H1 lf (.lst [])) ll = some (.lst (vns (range1 m))) := by rw [upd_ne (ne_of_none hL1 hlf)]; exact hL1
    have hF2 : (upd H1 lf (.lst [])) lf = some (.lst (vns [])) := upd_same
    have nf : lf ≠ h := fun z => by obtain ⟨ys, hy⟩ := hH1.lst; rw [z, hy] at hlf; cases hlf
    have bf : B lf = none := fresh_back e1 hlf
    have nlf : ll ≠ lf := ne_of_none hL1 hlf
    generalize upd H1 lf (.lst []) = H2 at e2 hH2 hL2 hF2
    have ncl : c ≠ ll := ne_of_none hC bl
    have ncf : c ≠ lf := ne_of_none hC bf
    refine ⟨_, rfl, _, rfl, _, _, rfl, ?_⟩
    have emin : (if (m : Int) < (st : Int) then (m : Int) else (st : Int)) = (st : Int) := if_neg (by omega)
    rw [emin]
    refine ⟨_, rfl, by omega, by omega, ?_⟩
    refine forR0 (n := st) (by omega) (fun i σ H' => ∃ (left fs : List Nat) (y : Option V), σ = [some (.ref h), some (VI m), some (VI st), some (.ref ll), some (.ref lf), y] ∧ left.length = m - i ∧ fs.length = i ∧ Ex B H' ∧ HandAt H' h c ∧ H' ll = some (.lst (vns left)) ∧ H' lf = some (.lst (vns fs)) ∧ left.Nodup ∧ fs.Nodup ∧ (∀ x ∈ left, 1 ≤ x ∧ x ≤ m ∧ ¬ x ∈ fs) ∧ ∀ x ∈ fs, 1 ≤ x ∧ x ≤ m)
      ⟨range1 m, [], none, rfl, by unfold range1; rw [List.length_map, List.length_range]; rfl, rfl, e2, hH2, hL2, hF2, map_nodup (fun a b e => by omega) List.nodup_range, List.nodup_nil, fun x hx => ?_, fun x hx => by cases hx⟩ ?_ ?_
    · obtain ⟨j, hj, rfl⟩ := List.mem_map.mp hx
      have := List.mem_range.mp hj
      exact ⟨by omega, by omega, fun z => by cases z⟩
    · rintro i σ H5 hi ⟨left, fs, y, rfl, hn, hfn, e5, hH5, hL5, hF5, nd1, nd2, hin, hfin⟩
      have elen : (((vns left).length : Nat) : Int) = ((left.length : Nat) : Int) := by rw [List.length_map]
      refine ⟨.ref lf, rfl, .inl ⟨rfl, _, .inl (.inl hF5)⟩, ?_⟩
      refine ⟨.ref ll, rfl, .inl ⟨rfl, _, .inl (.inl hL5)⟩, .ref h, rfl, .ref ll, rfl, ll, _, rfl, .inl (.inl (.inl hL5)), h, c, left.length, by rw [elen]; rfl, by omega, by omega, hH5, fun k H6 hk e6 hH6 => ?_⟩
      have e06 := (ex_back e5 hB).trans e6
      have hL6 := exd e6 hL5 nl
      have hF6 := exd e6 hF5 nf
      have hkb : left[k]? = some left[k] := List.getElem?_eq_getElem hk
      generalize left[k] = b at hkb
      obtain ⟨b1, b2, b3⟩ := hin b (List.mem_of_getElem? hkb)
      refine ⟨ll, _, _, k, VI b, rfl, rfl, hL6, by omega, by omega, seq_nat (by rw [List.length_map]; exact hk), by rw [List.getElem?_map, hkb]; rfl, ?_⟩
      rw [vns_erase]
      have e7 := e06.mut (o := .lst (vns (left.eraseIdx k))) bl
      have hH7 := hH6.upd (o := .lst (vns (left.eraseIdx k))) nl ncl.symm
      have hL7 : (upd H6 ll (.lst (vns (left.eraseIdx k)))) ll = some (.lst (vns (left.eraseIdx k))) := upd_same
      have hF7 : (upd H6 ll (.lst (vns (left.eraseIdx k)))) lf = some (.lst (vns fs)) := by rw [upd_ne nlf.symm]; exact hF6
      generalize upd H6 ll (.lst (vns (left.eraseIdx k))) = H7 at e7 hH7 hL7 hF7
      refine ⟨lf, _, _, rfl, rfl, hF7, sz_lt (by rw [List.length_map]; omega), ?_⟩
      refine ⟨left.eraseIdx k, fs ++ [b], _, rfl, ?_, by rw [List.length_append, List.length_singleton, hfn], e7.mut bf, hH7.upd nf ncf.symm, by rw [upd_ne nlf]; exact hL7, by rw [upd_same, vns_app]; rfl, List.Pairwise.sublist (List.eraseIdx_sublist _ _) nd1, ?_, fun x hx => ?_, fun x hx => ?_⟩
      · rw [List.length_eraseIdx, if_pos hk]; omega
      · exact nd_snoc nd2 b3
      · obtain ⟨h1, h2⟩ := (mem_erase nd1 hkb).mp hx
        obtain ⟨x1, x2, x3⟩ := hin x h1
        refine ⟨x1, x2, fun z => ?_⟩
        rcases List.mem_append.mp z with z | z
        · exact x3 z
        · exact h2 (List.mem_singleton.mp z)
      · rcases List.mem_append.mp hx with z | z
        · exact hfin x z
        · rw [List.mem_singleton.mp z]; exact ⟨b1, b2⟩
    · rintro σ H5 ⟨left, fs, y, rfl, hn, hfn, e5, hH5, hL5, hF5, nd1, nd2, hin, hfin⟩
      refine ⟨.ref lf, rfl, lf, fs.map (fun p : Nat => (p : Int)), rfl, .inl (.inl (by rw [hF5, vns_cast])), by rw [List.length_map]; omega, fun ns' sl hperm hsrt hsl => ?_⟩
      obtain ⟨lost, rfl, hpl⟩ := perm_cast hperm
      rw [vns_cast]
      refine ⟨sl, _, rfl, .inl ⟨.inl (.inl upd_same), fun t ht => ?_⟩⟩
      have e6 := (Ex.new (o := .lst (vns lost)) hsl).trans (Ex.new (o := .tup (vns lost)) ht)
      refine q t lost _ ?_ (by rw [hpl.length_eq, hfn]) (fun x hx => hfin x (hpl.mem_iff.mp hx)) (e5.trans e6) (hH5.mono e6) upd_same
      have hnd : lost.Nodup := hpl.nodup_iff.mpr nd2
      rw [List.pairwise_map] at hsrt
      exact List.Pairwise.imp₂ (fun a b h1 h2 => by omega) hsrt hnd
end
end Fv
end
section
namespace Fv
def searchAll : Bool := (List.range 5).all fun u => (List.range 3).all fun d => decide (u = 0 ∧ d = 0) || decide (searchF u d (distF u d) = some true)
theorem search_all : searchAll = true := by decide +kernel
theorem search_ok {u d : Nat} (hu : u ≤ 4) (hd : d ≤ 2) (h : ¬ (u = 0 ∧ d = 0)) : searchF u d (distF u d) = some true := by
  have h1 := List.all_eq_true.mp search_all u (List.mem_range.mpr (by omega))
  have h2 := List.all_eq_true.mp h1 d (List.mem_range.mpr (by omega))
  rw [Bool.or_eq_true, decide_eq_true_eq, decide_eq_true_eq] at h2
  exact h2.resolve_left h
end Fv
end
section
/-! the plain law: what is lost is always put back in one way -/
namespace Fv
theorem pig : ∀ (A L : List Nat), A.Nodup → (∀ x ∈ A, x ∈ L) → L.length ≤ A.length → ∀ x ∈ L, x ∈ A
  | [], L, _, _, h, x, hx => by
    have : L = [] := List.length_eq_zero_iff.mp (by simpa using h)
    rw [this] at hx; exact hx
  | a :: A, L, hn, hs, h, x, hx => by
    obtain ⟨n1, n2⟩ := List.nodup_cons.mp hn
    have ha : a ∈ L := hs a List.mem_cons_self
    by_cases e : x = a
    · rw [e]; exact List.mem_cons_self
    · refine List.mem_cons_of_mem _ (pig A (L.erase a) n2 (fun y hy => ?_) ?_ x ((List.mem_erase_of_ne e).mpr hx))
      · exact (List.mem_erase_of_ne (fun z => n1 (by rw [← z]; exact hy))).mpr (hs y (List.mem_cons_of_mem _ hy))
      · rw [List.length_erase_of_mem ha]
        have h : L.length ≤ A.length + 1 := h
        omega
theorem one_of {l : List Nat} {p : Nat} (hn : l.Nodup) (hp : p ∈ l) (h : ∀ x ∈ l, x = p) : l = [p] := by
  cases l with
  | nil => cases hp
  | cons a r =>
    have ha := h a List.mem_cons_self
    subst ha
    cases r with
    | nil => rfl
    | cons b r =>
      have hb := h b (List.mem_cons_of_mem _ List.mem_cons_self)
      subst hb
      exact absurd List.mem_cons_self (List.nodup_cons.mp hn).1
theorem treeB_of {hs : List Nat} (T : TreeOk hs) : treeB hs = true := by
  unfold treeB
  simp only [Bool.and_eq_true, decide_eq_true_eq, List.all_eq_true, List.mem_range]
  refine ⟨T.n1, T.n40, fun x hx => ?_, fun b hb => T.home b (by omega)⟩
  obtain ⟨i, hi, e⟩ := List.getElem_of_mem hx
  rw [← e, ← par_at hi]
  exact T.le _
theorem sorted_nodup {l : List Nat} (h : l.Pairwise (· < ·)) : l.Nodup := List.Pairwise.imp (fun h => Nat.ne_of_lt h) h
section
variable {hs : List Nat} {u d : Nat} {lost : List Nat}
theorem unk_up (T : TreeOk hs) {b : Nat} (h1 : 1 ≤ b) (hn : b ≤ hs.length) (hk : kn hs u d lost b = false) (hu : 0 < u) : b ∈ lost := by
  refine Decidable.byContradiction fun hl => ?_
  have : kn hs u d lost b = true := kn_iff.mpr ⟨par hs b, List.mem_flatMap.mpr ⟨b, mem_places.mpr ⟨hn, hl⟩, List.mem_append.mpr (.inr ?_)⟩⟩
  · rw [hk] at this; cases this
  · show (b, par hs b) ∈ (b :: (chain hs hs.length b).take u).zip ((chain hs hs.length b).take u)
    obtain ⟨n, hn'⟩ : ∃ n, hs.length = n + 1 := ⟨hs.length - 1, by have := T.n1; omega⟩
    obtain ⟨v, rfl⟩ : ∃ v, u = v + 1 := ⟨u - 1, by omega⟩
    rw [hn']
    unfold chain
    rw [if_neg (by omega), List.take_succ_cons, List.zip_cons_cons]
    exact List.mem_cons_self
theorem unk_down (T : TreeOk hs) {b : Nat} (h1 : 1 ≤ b) (hn : b ≤ hs.length) (hk : kn hs u d lost b = false) {i : Nat} (hi : i < d) : up hs (i + 1) b ∈ lost := by
  refine Decidable.byContradiction fun hl => ?_
  have : kn hs u d lost b = true := kn_iff.mpr ⟨par hs b, List.mem_flatMap.mpr ⟨up hs (i + 1) b, mem_places.mpr ⟨T.up_le hn _, hl⟩, List.mem_append.mpr (.inl ?_)⟩⟩
  · rw [hk] at this; cases this
  · exact mem_tiesC.mpr ⟨h1, hn, rfl, ben_iff.mpr ⟨i, hi, rfl⟩⟩
/-- what of an unknown block must be lost -/
def ups (hs : List Nat) (u d b : Nat) : List Nat := (if 0 < u then [b] else []) ++ (List.range d).map fun i => up hs (i + 1) b
theorem mem_ups {x b : Nat} : x ∈ ups hs u d b ↔ (0 < u ∧ x = b) ∨ ∃ i, i < d ∧ x = up hs (i + 1) b := by
  unfold ups
  rw [List.mem_append, List.mem_map]
  constructor
  · rintro (h | ⟨i, hi, rfl⟩)
    · split at h
      · rename_i hu; exact .inl ⟨hu, List.mem_singleton.mp h⟩
      · cases h
    · exact .inr ⟨i, List.mem_range.mp hi, rfl⟩
  · rintro (⟨hu, rfl⟩ | ⟨i, hi, rfl⟩)
    · rw [if_pos hu]; exact .inl (List.mem_singleton.mpr rfl)
    · exact .inr ⟨i, List.mem_range.mpr hi, rfl⟩
theorem no_ring (T : TreeOk hs) {b i j : Nat} (hn : b ≤ hs.length) (hij : i < j) (e : up hs i b = up hs j b) : up hs i b = 0 := by
  obtain ⟨m, rfl⟩ : ∃ m, j = i + (m + 1) := ⟨j - i - 1, by omega⟩
  rw [up_add] at e
  exact T.nocyc (T.up_le hn i) e.symm
/-- the setting of an unknown block -/
structure Unk (hs : List Nat) (u d : Nat) (lost : List Nat) (b : Nat) : Prop where
  b1 : 1 ≤ b
  bn : b ≤ hs.length
  kf : kn hs u d lost b = false
structure Small (hs : List Nat) (u d : Nat) (lost : List Nat) : Prop where
  tree : TreeOk hs
  pos : 1 ≤ distF u d
  few : lost.length ≤ distF u d - 1
  inn : ∀ x ∈ lost, 1 ≤ x ∧ x ≤ hs.length
theorem Small.zero (S : Small hs u d lost) : ¬ 0 ∈ lost := fun h => by have := (S.inn 0 h).1; omega
theorem Small.dpos (S : Small hs u d lost) {b : Nat} (U : Unk hs u d lost b) : 0 < d := by
  refine Decidable.byContradiction fun hd => ?_
  have hd : d = 0 := by omega
  subst hd
  have hp := S.pos
  have hf := S.few
  unfold distF at hp hf
  rw [if_neg (by omega)] at hp hf
  by_cases hu : 0 < u
  · rw [if_pos hu] at hf
    have hl : lost = [] := List.length_eq_zero_iff.mp (by omega)
    have := unk_up S.tree U.b1 U.bn U.kf hu
    rw [hl] at this
    cases this
  · rw [if_neg hu] at hp; omega
theorem Small.sub (S : Small hs u d lost) {b : Nat} (U : Unk hs u d lost b) : ∀ x ∈ ups hs u d b, x ∈ lost := fun x hx => by
  rcases mem_ups.mp hx with ⟨hu, rfl⟩ | ⟨i, hi, rfl⟩
  · exact unk_up S.tree U.b1 U.bn U.kf hu
  · exact unk_down S.tree U.b1 U.bn U.kf hi
theorem Small.nz (S : Small hs u d lost) {b : Nat} (U : Unk hs u d lost b) {i : Nat} (hi : i ≤ d) : up hs i b ≠ 0 := by
  cases i with
  | zero => have := U.b1; show b ≠ 0; omega
  | succ i => exact fun z => S.zero (z ▸ unk_down S.tree U.b1 U.bn U.kf (show i < d by omega))
theorem Small.nodup (S : Small hs u d lost) {b : Nat} (U : Unk hs u d lost b) : (ups hs u d b).Nodup := by
  have hm : ((List.range d).map fun i => up hs (i + 1) b).Nodup := by
    refine List.pairwise_map.mpr (List.Pairwise.imp_of_mem (fun {i j} hi hj h => ?_) List.pairwise_lt_range)
    intro e
    exact S.nz U (show i + 1 ≤ d by have := List.mem_range.mp hi; omega) (no_ring S.tree U.bn (by omega) e)
  unfold ups
  split
  · rw [List.singleton_append]
    refine List.nodup_cons.mpr ⟨fun h => ?_, hm⟩
    obtain ⟨i, hi, e⟩ := List.mem_map.mp h
    exact S.nz U (Nat.zero_le d) (no_ring S.tree U.bn (Nat.succ_pos i) e.symm)
  · exact hm
theorem Small.only (S : Small hs u d lost) {b : Nat} (U : Unk hs u d lost b) : ∀ x ∈ lost, x ∈ ups hs u d b := by
  refine pig _ _ (S.nodup U) (S.sub U) ?_
  have hd := S.dpos U
  have hf := S.few
  unfold distF at hf
  rw [if_pos hd] at hf
  unfold ups
  rw [List.length_append, List.length_map, List.length_range]
  split
  · rename_i hu; rw [if_pos hu] at hf; simp only [List.length_singleton]; omega
  · rename_i hu; rw [if_neg hu] at hf; simp only [List.length_nil]; omega
theorem Small.par_lost (S : Small hs u d lost) {b : Nat} (U : Unk hs u d lost b) : par hs b ∈ lost := unk_down S.tree U.b1 U.bn U.kf (i := 0) (S.dpos U)
/-- all unknown blocks hang under one place -/
theorem Small.same (S : Small hs u d lost) {b c : Nat} (U : Unk hs u d lost b) (V : Unk hs u d lost c) : par hs b = par hs c ∧ (0 < u → b = c) := by
  have one : 0 < u → b = c := fun hu => by
    rcases mem_ups.mp (S.only U c (unk_up S.tree V.b1 V.bn V.kf hu)) with ⟨_, e⟩ | ⟨i, hi, e⟩
    · exact e.symm
    rcases mem_ups.mp (S.only V b (unk_up S.tree U.b1 U.bn U.kf hu)) with ⟨_, e'⟩ | ⟨j, hj, e'⟩
    · exact e'
    exfalso
    rw [e, ← up_add, show i + 1 + (j + 1) = (i + 1 + j) + 1 by omega] at e'
    have := S.tree.nocyc U.bn e'.symm
    have := U.b1
    omega
  refine ⟨?_, one⟩
  by_cases hu : 0 < u
  · rw [one hu]
  rcases mem_ups.mp (S.only V _ (S.par_lost U)) with ⟨h, _⟩ | ⟨i, hi, e⟩
  · exact absurd h hu
  rcases mem_ups.mp (S.only U _ (S.par_lost V)) with ⟨h, _⟩ | ⟨j, hj, e'⟩
  · exact absurd h hu
  cases i with
  | zero => exact e
  | succ i =>
    exfalso
    have e1 : par hs b = up hs (i + 1) (par hs c) := e
    have e2 : par hs c = up hs j (par hs b) := e'
    rw [e2, ← up_add, ← Nat.add_assoc] at e1
    have := S.tree.nocyc (S.tree.le b) e1.symm
    exact S.zero (this ▸ S.par_lost U)
/-! ### the ways -/
theorem way_up {k : Nat → Bool} : ∀ {f d p x : Nat}, x ∈ (wayF hs k f p).take d → ∃ i, i < d ∧ x = up hs i p
  | _, 0, p, x, h => by rw [List.take_zero] at h; cases h
  | 0, d + 1, p, x, h => by
    have h : x ∈ p :: ([] : List Nat).take d := h
    rw [List.take_nil, List.mem_singleton] at h
    exact ⟨0, by omega, h⟩
  | f + 1, d + 1, p, x, h => by
    have h : x ∈ p :: (if k p = true then wayF hs k f (par hs p) else []).take d := h
    rcases List.mem_cons.mp h with rfl | h
    · exact ⟨0, by omega, rfl⟩
    · split at h
      · obtain ⟨i, hi, e⟩ := way_up h
        exact ⟨i + 1, by omega, e⟩
      · rw [List.take_nil] at h; cases h
theorem way_take {k : Nat → Bool} : ∀ {f d p : Nat}, topF hs k f p = 0 → ∀ j, j < d → 0 ∈ (wayF hs k f p).take d ∨ up hs j p ∈ (wayF hs k f p).take d
  | _, 0, p, _, j, hj => by omega
  | 0, d + 1, p, h, j, hj => by
    have h : p = 0 := h
    refine .inl ?_
    show 0 ∈ p :: _
    rw [h]; exact List.mem_cons_self
  | f + 1, d + 1, p, h, j, hj => by
    have h : (if k p = true then topF hs k f (par hs p) else p) = 0 := h
    show 0 ∈ p :: (if k p = true then wayF hs k f (par hs p) else []).take d ∨ up hs j p ∈ p :: (if k p = true then wayF hs k f (par hs p) else []).take d
    split at h
    · rename_i hk
      rw [if_pos hk]
      cases j with
      | zero => exact .inr List.mem_cons_self
      | succ j =>
        rcases way_take (d := d) h j (by omega) with h1 | h1
        · exact .inl (List.mem_cons_of_mem _ h1)
        · exact .inr (List.mem_cons_of_mem _ h1)
    · refine .inl ?_
      rw [h]; exact List.mem_cons_self
theorem top_up {k : Nat → Bool} : ∀ f p, ∃ i, topF hs k f p = up hs i p
  | 0, p => ⟨0, rfl⟩
  | f + 1, p => by
    show ∃ i, (if k p = true then topF hs k f (par hs p) else p) = up hs i p
    split
    · obtain ⟨i, e⟩ := top_up (k := k) f (par hs p)
      exact ⟨i + 1, e⟩
    · exact ⟨0, rfl⟩
theorem way_head {k : Nat → Bool} {f d p : Nat} (h : 0 < d) : p ∈ (wayF hs k f p).take d := by
  cases d with
  | zero => omega
  | succ d =>
    cases f with
    | zero => exact List.mem_cons_self
    | succ f => exact List.mem_cons_self
theorem mem_every {p : Nat} {k : Nat → Bool} : p ∈ every hs k d lost ↔ p ≤ hs.length ∧ ∀ x ∈ (way hs k p).take d, x ∈ lost := by
  unfold every
  rw [List.mem_filter, List.mem_range, List.all_eq_true]
  exact ⟨fun ⟨h1, h2⟩ => ⟨by omega, fun x hx => List.contains_iff_mem.mp (h2 x hx)⟩, fun ⟨h1, h2⟩ => ⟨by omega, fun x hx => List.contains_iff_mem.mpr (h2 x hx)⟩⟩
theorem every_nodup {k : Nat → Bool} : (every hs k d lost).Nodup := List.Pairwise.filter _ List.nodup_range
theorem mem_lot {p t : Nat} {k : Nat → Bool} : p ∈ lot hs k d lost t ↔ p ∈ every hs k d lost ∧ topp hs k p = t := by
  unfold lot
  rw [List.mem_filter, decide_eq_true_eq]
/-- what lies above an unknown block has its top at the head -/
theorem Small.top0 (S : Small hs u d lost) {b : Nat} (U : Unk hs u d lost b) (i : Nat) (hi : i < d) : topp hs (kn hs u d lost) (up hs (i + 1) b) = 0 := by
  refine Decidable.byContradiction fun h => ?_
  obtain ⟨h1, h2⟩ := topp_spec S.tree (kn0 S.tree u d lost) (S.tree.up_le U.bn (i + 1))
  obtain ⟨m, em⟩ := top_up (hs := hs) (k := kn hs u d lost) hs.length (up hs (i + 1) b)
  have em : topp hs (kn hs u d lost) (up hs (i + 1) b) = up hs m (up hs (i + 1) b) := em
  generalize topp hs (kn hs u d lost) (up hs (i + 1) b) = t at h h1 h2 em
  have V : Unk hs u d lost t := ⟨Nat.one_le_iff_ne_zero.mpr h, h2, h1⟩
  have e := (S.same U V).1
  rw [em, ← up_succ, ← up_add] at e
  have e : up hs 1 b = up hs (i + 1 + (m + 1)) b := e
  exact S.nz U (show 1 ≤ d by have := S.dpos U; omega) (no_ring S.tree U.bn (by omega) e)
theorem Small.lot0 (S : Small hs u d lost) {b : Nat} (U : Unk hs u d lost b) : lot hs (kn hs u d lost) d lost 0 = [par hs b] := by
  have hd := S.dpos U
  refine one_of (List.Pairwise.filter _ every_nodup) (mem_lot.mpr ⟨mem_every.mpr ⟨S.tree.le b, fun x hx => ?_⟩, S.top0 U 0 hd⟩) fun p hp => ?_
  · obtain ⟨i, hi, rfl⟩ := way_up hx
    exact unk_down S.tree U.b1 U.bn U.kf hi
  · obtain ⟨h1, h2⟩ := mem_lot.mp hp
    obtain ⟨h3, h4⟩ := mem_every.mp h1
    rcases mem_ups.mp (S.only U p (h4 p (way_head hd))) with ⟨_, rfl⟩ | ⟨i, hi, rfl⟩
    · rw [topp_self U.kf] at h2
      have := U.b1
      omega
    · cases i with
      | zero => rfl
      | succ i =>
        exfalso
        rcases way_take h2 (d - 1) (show d - 1 < d by omega) with h | h
        · exact S.zero (h4 _ h)
        · have hl := h4 _ h
          rw [← up_add] at hl
          rcases mem_ups.mp (S.only U _ hl) with ⟨_, e⟩ | ⟨j, hj, e⟩
          · exact S.nz U (Nat.zero_le d) (no_ring (i := 0) S.tree U.bn (by omega) e.symm)
          · exact S.nz U (show j + 1 ≤ d by omega) (no_ring S.tree U.bn (by omega) e.symm)
theorem Small.ev0 (S : Small hs u d lost) {b : Nat} (U : Unk hs u d lost b) (hu : ¬ 0 < u) : every hs (kn hs u d lost) d lost = [par hs b] := by
  have hd := S.dpos U
  rw [← S.lot0 U]
  unfold lot
  refine (List.filter_eq_self.mpr fun p hp => decide_eq_true ?_).symm
  obtain ⟨h3, h4⟩ := mem_every.mp hp
  rcases mem_ups.mp (S.only U p (h4 p (way_head hd))) with ⟨h, _⟩ | ⟨i, hi, rfl⟩
  · exact absurd h hu
  · exact S.top0 U i hi
end
/-! ### hanging the tops -/
theorem minL_cons : ∀ {r : List Nat} {a : Nat}, (a :: r).Pairwise (· < ·) → minL (a :: r) = some a
  | [], a, _ => rfl
  | b :: r, a, h => by
    obtain ⟨h1, h2⟩ := List.pairwise_cons.mp h
    have := minL_cons h2
    show (match minL (b :: r) with | none => some a | some m => some (if a ≤ m then a else m)) = some a
    rw [this]
    show some (if a ≤ b then a else b) = some a
    rw [if_pos (Nat.le_of_lt (h1 b List.mem_cons_self))]
theorem hung_all {piece : Nat → Nat} {p : Nat} (hp : piece p = 0) : ∀ {l : List Nat} {fnd : Nat → Option Nat}, l.Pairwise (· < ·) → (∀ x ∈ l, x ≠ 0) →
    ∃ fnd', hungLoop piece (List.replicate l.length p) l fnd = some fnd' ∧ (∀ b, b ∈ l → fnd' b = some p) ∧ ∀ b, ¬ b ∈ l → fnd' b = fnd b
  | [], fnd, _, _ => ⟨fnd, rfl, fun b hb => (by cases hb), fun b _ => rfl⟩
  | a :: r, fnd, hl, h0 => by
    obtain ⟨h1, h2⟩ := List.pairwise_cons.mp hl
    have e1 : (a :: r).filter (fun o => !(((p :: List.replicate r.length p).map piece).contains o)) = a :: r := by
      refine List.filter_eq_self.mpr fun o ho => ?_
      rw [Bool.not_eq_true', ← Bool.not_eq_true, List.contains_iff_mem]
      intro hm
      obtain ⟨q, hq, e⟩ := List.mem_map.mp hm
      have hq : q = p := by
        rcases List.mem_cons.mp hq with h | h
        · exact h
        · exact List.eq_of_mem_replicate h
      rw [hq, hp] at e
      exact h0 o ho e.symm
    have e2 : (a :: r).filter (fun o => decide (o ≠ a)) = r := by
      rw [List.filter_cons_of_neg (by simp)]
      exact List.filter_eq_self.mpr fun o ho => decide_eq_true (Nat.ne_of_gt (h1 o ho))
    obtain ⟨f', g1, g2, g3⟩ := hung_all hp (l := r) (fnd := fun b => if b = a then some p else fnd b) h2 fun x hx => h0 x (List.mem_cons_of_mem _ hx)
    refine ⟨f', ?_, fun b hb => ?_, fun b hb => ?_⟩
    · show hungLoop piece (p :: List.replicate r.length p) (a :: r) fnd = some f'
      unfold hungLoop
      rw [e1, minL_cons hl]
      dsimp only
      rw [e2]
      exact g1
    · by_cases hr : b ∈ r
      · exact g2 b hr
      · rcases List.mem_cons.mp hb with rfl | h
        · rw [g3 b hr]; exact if_pos rfl
        · exact absurd h hr
    · rw [g3 b fun h => hb (List.mem_cons_of_mem _ h)]
      exact if_neg fun e => hb (by rw [e]; exact List.mem_cons_self)
theorem resF_of {fnd : Nat → Option Nat} {hs : List Nat} : ∀ {m : Nat}, m ≤ hs.length → (∀ i, i < m → fnd (i + 1) = some (par hs (i + 1))) → resF fnd m = some (hs.take m)
  | 0, _, _ => by rw [List.take_zero]; rfl
  | m + 1, hm, h => by
    unfold resF
    rw [resF_of (by omega) fun i hi => h i (by omega), h m (by omega)]
    dsimp only
    rw [par_at (show m < hs.length by omega), List.take_succ_eq_append_getElem]
theorem left_one {hs : List Nat} {u d : Nat} {lost : List Nat} (T : TreeOk hs) (hin : ∀ x ∈ lost, 1 ≤ x ∧ x ≤ hs.length) (hpos : 1 ≤ distF u d) (hfew : lost.length ≤ distF u d - 1) : leftF hs u d lost = some 1 := by
  have S : Small hs u d lost := ⟨T, hpos, hfew, hin⟩
  have k0 := kn0 T u d lost
  have eT := tops_head (n := hs.length) k0
  have hun : ∀ t ∈ (tops hs.length (kn hs u d lost)).tail, Unk hs u d lost t := fun t ht => by
    have hm : t ∈ tops hs.length (kn hs u d lost) := List.mem_of_mem_tail ht
    obtain ⟨h1, h2⟩ := mem_tops.mp hm
    have hsrt := tops_sorted hs.length (kn hs u d lost)
    rw [eT] at hsrt
    have := (List.pairwise_cons.mp hsrt).1 t ht
    exact ⟨by omega, h1, h2⟩
  have hsrt : (tops hs.length (kn hs u d lost)).tail.Pairwise (· < ·) := by
    have h := tops_sorted hs.length (kn hs u d lost)
    rw [eT] at h
    exact (List.pairwise_cons.mp h).2
  have hmem : ∀ b, 1 ≤ b → b ≤ hs.length → kn hs u d lost b = false → b ∈ (tops hs.length (kn hs u d lost)).tail := fun b b1 bn hb => by
    have : b ∈ tops hs.length (kn hs u d lost) := mem_tops.mpr ⟨bn, hb⟩
    rw [eT] at this
    rcases List.mem_cons.mp this with h | h
    · omega
    · exact h
  have hend : ∀ fnd : Nat → Option Nat, (∀ b, 1 ≤ b → b ≤ hs.length → fnd b = some (par hs b)) → resF fnd hs.length = some hs := fun fnd h => by
    have := resF_of (fnd := fnd) (hs := hs) (Nat.le_refl _) fun i hi => h (i + 1) (by omega) (by omega)
    rwa [List.take_length] at this
  have hfirst : firstF hs u d lost = some hs ∧ manyF (tops hs.length (kn hs u d lost)).length (lot hs (kn hs u d lost) d lost 0).length (every hs (kn hs u d lost) d lost).length = 1 := by
    generalize hts : (tops hs.length (kn hs u d lost)).tail = l at hun hsrt hmem eT
    unfold firstF
    dsimp only
    rw [eT]
    cases l with
    | nil =>
      refine ⟨?_, ?_⟩
      · show (if 1 < 1 ∧ _ then _ else _) = _
        rw [if_neg (fun h => absurd h.1 (Nat.lt_irrefl 1))]
        show (match resF _ hs.length with | x => x) = some hs
        refine hend _ fun b b1 bn => ?_
        have hb : kn hs u d lost b = true := by
          cases hc : kn hs u d lost b with
          | true => rfl
          | false => exact absurd (hmem b b1 bn hc) (by simp)
        rw [if_pos hb]
      · show manyF 1 _ _ = 1
        unfold manyF; rw [if_pos rfl]
    | cons b r =>
      have U := hun b List.mem_cons_self
      have hl0 := S.lot0 U
      have hpar : ∀ t ∈ b :: r, par hs t = par hs b := fun t ht => (S.same (hun t ht) U).1
      have hdg : (digitsF (0 :: b :: r).length (every hs (kn hs u d lost) d lost) [par hs b]).map (fun l => l.headD 0) = List.replicate (b :: r).length (par hs b) ∧ manyF (0 :: b :: r).length 1 (every hs (kn hs u d lost) d lost).length = 1 := by
        unfold digitsF manyF
        rw [if_pos (show 1 < (0 :: b :: r).length by simp), if_neg (show ¬ (0 :: b :: r).length = 1 by simp)]
        show (List.replicate (r.length + 1 + 1 - 2) _ ++ _).map _ = _ ∧ 1 * _ ^ (r.length + 1 + 1 - 2) = 1
        rw [show r.length + 1 + 1 - 2 = r.length by omega, List.map_append, List.map_replicate]
        by_cases hu : 0 < u
        · have hr : r = [] := by
            cases r with
            | nil => rfl
            | cons c r =>
              have := (S.same (hun c (List.mem_cons_of_mem _ List.mem_cons_self)) U).2 hu
              have h2 := (List.pairwise_cons.mp hsrt).1 c List.mem_cons_self
              omega
          subst hr
          exact ⟨rfl, rfl⟩
        · rw [S.ev0 U hu]
          refine ⟨?_, by rw [List.length_singleton, Nat.one_pow]⟩
          show List.replicate r.length (par hs b) ++ [par hs b] = List.replicate (r.length + 1) (par hs b)
          rw [← List.replicate_succ']
      obtain ⟨f', g1, g2, g3⟩ := hung_all (piece := topp hs (kn hs u d lost)) (p := par hs b) (S.top0 U 0 (S.dpos U)) (l := b :: r) (fnd := fun b => if kn hs u d lost b = true then some (par hs b) else none) hsrt fun x hx => by have := (hun x hx).b1; omega
      rw [hl0, if_neg (fun h => by cases h.2), hdg.1]
      refine ⟨?_, hdg.2⟩
      show (match hungLoop (topp hs (kn hs u d lost)) (List.replicate (b :: r).length (par hs b)) (b :: r) (fun b => if kn hs u d lost b = true then some (par hs b) else none) with | none => none | some fnd => resF fnd hs.length) = some hs
      rw [g1]
      dsimp only
      refine hend _ fun c c1 cn => ?_
      by_cases hc : c ∈ b :: r
      · rw [g2 c hc, hpar c hc]
      · rw [g3 c hc]
        have hb : kn hs u d lost c = true := by
          cases hc' : kn hs u d lost c with
          | true => rfl
          | false => exact absurd (hmem c c1 cn hc') hc
        exact if_pos hb
  unfold leftF
  rw [hfirst.1]
  dsimp only
  rw [if_pos ⟨treeB_of T, rfl, List.all_eq_true.mpr fun p _ => decide_eq_true rfl⟩, hfirst.2]
end Fv
end
section
/-! the law -/
open PySem PySem.Spec PyProof.Rows
namespace Fv
open L2 Evl
def pairI (x y : Int) : PyData := .tuple [.int x, .int y]
theorem pairI_shaped (x y : Int) : SeqAt.shaped (pairI x y) = true := by
  show ((pairI x y).canLay0 && decide ((pairI x y).depth ≤ 64)) = true
  rw [Bool.and_eq_true]
  refine ⟨?_, decide_eq_true ?_⟩
  · simp only [pairI, PyData.canLay0, PyData.canLayAll0, Bool.true_and]
  · simp only [pairI, PyData.depth, PyData.depthAll]
    omega
theorem pairI_eqv (x y a b : Int) : PyData.eqv (pairI x y) (pairI a b) = decide (x = a ∧ y = b) := by
  simp only [pairI, PyData.eqv, PyData.eqvAll, Bool.and_true]
  rw [Bool.eq_iff_iff]
  simp
theorem dp_pairI {K : PySem.W.Frag} {H : Hp} {a : Addr} {x y : Int} (h : SqT K H a [.int x, .int y]) : Dp K H (.ref a) (pairI x y) := .tup h (.cons (.int _) (.cons (.int _) .nil))
def dueI (u d : Nat) : Int := (distF u d : Int) - 1
theorem dist_zero {u d : Nat} : distF u d = 0 ↔ u = 0 ∧ d = 0 := by
  unfold distF
  split <;> split <;> omega
theorem dist_le {u d : Nat} (h : d ≤ 4) : distF u d ≤ 6 := by
  unfold distF
  split <;> split <;> omega
section
variable {P : Program} {w : World} {K : PySem.W.Frag} {mg : Str → Option Value} {base : Heap}
def sp_law (K : PySem.W.Frag) : Sp := fun vs H Q _ => ∃ (a : Addr) (ns : List Int), vs = [.ref a] ∧ SqL K H a (ns.map V.int) ∧ ns.length ≤ 63 ∧ ∀ H', Q (.bl true) H'
theorem fn_law {fd : FuncData} (T : Txt K mg) (F : Fun K "law" "law" s_law (He.fAd K ("law", none)) fd) : FnOk P w K mg base CX0 10 (He.fAd K ("law", none)) fd ["_law_script"] (sp_law K) := by
  refine F.ok sc_law (fun vs H Q E h => ?_) (fun cdv A outer s H vs Q E hr h => ?_)
  · obtain ⟨a, ns, rfl, _⟩ := h; rfl
  · obtain ⟨a, ns, rfl, hA, h63, q⟩ := h
    refine ⟨_, (pss_cons (ps_set (i := 1) sc_law.nd rfl (Or.inl rfl) (pe_cal (ok_law_hand T) (hr.mono (by decide)) (by rfl) (pa_cons (pv 0) pa_nil)))
      (pss_cons (ps_for PassesOwn.never rfl (pi_range1 (by rfl) T.n_range (pa_cons pe_int pa_nil)) (pg_name (i := 2) sc_law.nd rfl (Or.inl rfl))
        (pss_cons (ps_set (i := 3) sc_law.nd rfl (Or.inr rfl) (pe_cal (ok_law_view T) (hr.mono (by decide)) (by rfl) (pa_cons (pv 1) pa_nil)))
      (pss_cons (ps_asg (pv 3) (pg_tup (by rfl) (pgs_cons (pg_name (i := 4) sc_law.nd rfl (Or.inl rfl)) (pgs_cons (pg_name (i := 5) sc_law.nd rfl (Or.inl rfl)) pgs_nil))))
      (pss_cut (ps_set (i := 6) sc_law.nd rfl (Or.inl rfl) (pe_ifExp (pt_cmpR op_gt (pv 5) pe_int (nomark _)) (pe_op op_add (pv 5) (pe_callTy call_int1 (by rfl) T.n_int (by decide +kernel) (pa_cons (pe_cmpR op_gt (pv 4) pe_int (nomark _)) pa_nil))) (pe_op op_sub (pe_callTy call_int1 (by rfl) T.n_int (by decide +kernel) (pa_cons (pe_cmpR op_gt (pv 4) pe_int (nomark _)) pa_nil)) pe_int)))
      (pss_cut (ps_set (i := 7) sc_law.nd rfl (Or.inl rfl) (pe_cal (ok_always T) (hr.mono (by decide)) (by rfl) (pa_cons (pv 3) pa_nil)))
      (pss_cut (ps_if (pt_cmpR (op_eqD hr.units) (pv 3) (pe_tup (pa_cons pe_int (pa_cons pe_int pa_nil))) (nomark _)) (pss_one (ps_if (PW.pt (pw_or (pt_cmpR op_notN (pv 7) pe_non (nomark _)) (pw_or1 (pt_cmpR op_ne (pe_cal (ok_distance T) (hr.mono (by decide)) (by rfl) (pa_cons (pv 3) pa_nil)) pe_int (nomark _))))) (pss_one (ps_ret pe_bl)) pss_nil)) (pss_cons (ps_if (PW.pt (pw_or (pt_cmpR (op_neD hr.units) (pv 7) (pe_tup (pa_cons (pv 6) (pa_cons (pe_op op_fdiv (pv 6) pe_int) pa_nil))) (nomark _)) (pw_or (pt_not (pt_val (pe_callB call_isi (by rfl) T.n_isinstance (by decide +kernel) (pa_cons (pv 7) (pa_cons (pe_bltn (v := .ty "tuple") (by rfl) T.n_tuple (by decide +kernel) rfl) pa_nil))))) (pw_or1 (pt_cmpR op_ne (pe_cal (ok_distance T) (hr.mono (by decide)) (by rfl) (pa_cons (pv 3) pa_nil)) (pe_op op_add (pv 6) pe_int) (nomark _)))))) (pss_one (ps_ret pe_bl)) pss_nil)
      (pss_cons (ps_set (i := 8) sc_law.nd rfl (Or.inl rfl) (pe_op op_add pe_int (pe_cal (ok_law_draw T) (hr.mono (by decide)) (by rfl) (pa_cons (pv 1) (pa_cons pe_int pa_nil)))))
      (pss_cons (ps_set (i := 9) sc_law.nd rfl (Or.inr rfl) (pe_cal (ok_law_tree T) (hr.mono (by decide)) (by rfl) (pa_cons (pv 1) (pa_cons (pv 8) pa_nil))))
      (pss_cons (ps_if (pt_not (pt_val (pe_callB (cr_all rfl) (by rfl) T.n_all (by decide +kernel) (pa_cons (pe_lc (own := [("_law_lot_here", 11)]) (g := (gName 11)) (tt := tYes) (by rfl) sc_law.nd (pi_list (pe_cal (ok_law_lots T) (hr.mono (by decide)) (by rfl) (pa_cons (pv 8) (pa_cons (pe_callB (call_min2 rfl) (by rfl) T.n_min (by decide +kernel) (pa_cons (pv 6) (pa_cons (pv 8) pa_nil))) pa_nil)))) (blkOk_by (own := [("_law_lot_here", 11)]) (N := N_law) (sc := defScope s_law) (by decide +kernel)) (fun _ _ _ _ _ => (pg_name (i := 11) sc_law.nd rfl (Or.inl rfl))) (fun _ _ _ _ _ => pts_nil) (fun _ _ _ _ _ => (pe_cmpR op_eq (pe_cal (ok_law_left T) (hr.mono (by decide)) (by rfl) (pa_cons (pv 9) (pa_cons (pv 3) (pa_cons (pv 11) pa_nil)))) pe_int (nomark _)))) pa_nil)))) (pss_one (ps_ret pe_bl)) pss_nil)
      (pss_one (ps_if (pt_cmpR op_eq (pe_cal (ok_law_draw T) (hr.mono (by decide)) (by rfl) (pa_cons (pv 1) (pa_cons pe_int pa_nil))) pe_int (nomark _)) (pss_cons (ps_set (i := 9) sc_law.nd rfl (Or.inr rfl) (pe_cal (ok_law_tree T) (hr.mono (by decide)) (by rfl) (pa_cons (pv 1) (pa_cons pe_int pa_nil))))
      (pss_one (ps_for PassesOwn.never rfl (pi_range1 (by rfl) T.n_range (pa_cons pe_int pa_nil)) (pg_name (i := 10) sc_law.nd rfl (Or.inl rfl))
        (pss_one (ps_if (pt_cmpR op_ne (pe_cal (ok_law_left T) (hr.mono (by decide)) (by rfl) (pa_cons (pv 9) (pa_cons (pv 3) (pa_cons (pe_cal (ok_law_some_lot T) (hr.mono (by decide)) (by rfl) (pa_cons (pv 1) (pa_cons pe_int (pa_cons (pv 6) pa_nil)))) pa_nil)))) pe_int (nomark _)) (pss_one (ps_ret pe_bl)) pss_nil))))) pss_nil)))))))
      (pss_one (ps_if (PW.pt (pw_and (pt_cmpR op_lt (pe_op op_add (pv 5) pe_int) pe_int (nomark _)) (pw_and (pt_cmpR (op_neD hr.units) (pv 3) (pe_tup (pa_cons pe_int (pa_cons pe_int pa_nil))) (nomark _)) (pw_and1 (pt_not (pt_val (pe_cal (ok_law_is_too_much T) (hr.mono (by decide)) (by rfl) (pa_cons (pv 3) (pa_cons (pe_op op_add (pv 6) pe_int) pa_nil))))))))) (pss_one (ps_ret pe_bl)) pss_nil))))))))
      (pss_one (ps_ret pe_bl)))), ?_⟩
    refine ⟨.ref a, rfl, a, ns, rfl, hA, h63, fun h c H1 bh e1 hH1 => ?_⟩
    refine ⟨_, rfl, by decide, by decide, ?_⟩
    refine forR0 (n := 2) rfl (fun i σ H' => (∃ y2 y3 y4 y5 y6 y7 y8 y9 y10 y11, σ = [some (.ref a), some (.ref h), y2, y3, y4, y5, y6, y7, y8, y9, y10, y11]) ∧ HandAt H' h c) ⟨⟨none, none, none, none, none, none, none, none, none, none, rfl⟩, hH1⟩ ?_ ?_
    · rintro i σ H2 hi ⟨⟨y2, y3, y4, y5, y6, y7, y8, y9, y10, y11, rfl⟩, hH2⟩
      refine ⟨.ref h, rfl, h, c, rfl, hH2, fun u d t H3 hu4 hd4 e3 hH3 hT3 => ?_⟩
      have sT3 : SqT K H3 t [VI u, VI d] := .inl (.inl hT3)
      refine ⟨.ref t, rfl, t, _, rfl, sT3, rfl, _, _, rfl, _, _, rfl, rfl, ?_⟩
      -- due
      refine ⟨fun σ' H' => ∃ due, due = dueI u d ∧ σ' = [some (.ref a), some (.ref h), some (VI i), some (.ref t), some (VI u), some (VI d), some (.int due), y7, y8, y9, y10, y11] ∧ HandAt H' h c ∧ H' t = some (.tup [VI u, VI d]), ?_, ?_⟩
      · refine ⟨_, rfl, _, _, rfl, rfl, _, rfl, ite2 (fun h1 => ?_) (fun h1 => ?_)⟩
        · have h1 := of_decide_eq_true h1
          refine ⟨_, rfl, _, rfl, _, _, rfl, rfl, .inr ⟨_, rfl, _, _, rfl, rfl, _, ?_, rfl, hH3, hT3⟩⟩
          unfold dueI distF
          simp only [decide_eq_true_eq]
          repeat' split
          all_goals omega
        · have h1 : ¬ (0 : Int) < (d : Int) := fun z => h1 (decide_eq_true z)
          refine ⟨_, rfl, _, _, rfl, rfl, .inr ⟨_, rfl, _, _, rfl, rfl, _, ?_, rfl, hH3, hT3⟩⟩
          unfold dueI distF
          simp only [decide_eq_true_eq]
          repeat' split
          all_goals omega
      rintro σ H4 ⟨due, hdue, rfl, hH4, hT4⟩
      have sT4 : SqT K H4 t [VI u, VI d] := .inl (.inl hT4)
      have hd6 := dist_le (u := u) hd4
      refine ⟨fun σ' H' => ∃ told, σ' = [some (.ref a), some (.ref h), some (VI i), some (.ref t), some (VI u), some (VI d), some (.int due), some told, y8, y9, y10, y11] ∧ HandAt H' h c ∧ H' t = some (.tup [VI u, VI d]) ∧
        ((distF u d = 0 ∧ told = .non) ∨ (distF u d ≠ 0 ∧ ∃ p, told = .ref p ∧ H' p = some (.tup [VI (distF u d - 1), VI ((distF u d - 1) / 2)]))), ?_, ?_⟩
      · exact ⟨.ref t, rfl, t, u, d, rfl, sT4, hu4, hd4, fun hz H5 e5 => ⟨_, rfl, hH4.mono e5, e5 _ _ hT4, .inl ⟨hz, rfl⟩⟩, fun hz p H5 e5 hP5 => ⟨_, rfl, hH4.mono e5, e5 _ _ hT4, .inr ⟨hz, p, rfl, hP5⟩⟩⟩
      rintro σ H5 ⟨told, rfl, hH5, hT5, htold⟩
      clear e3 hH3 hT3 sT3 hH4 hT4 sT4
      refine ⟨fun σ' H' => (∃ y7 y8 y9 y10 y11, σ' = [some (.ref a), some (.ref h), some (VI i), some (.ref t), some (VI u), some (VI d), some (.int due), y7, y8, y9, y10, y11]) ∧ HandAt H' h c ∧ H' t = some (.tup [VI u, VI d]), ?_, ?_⟩
      · refine ⟨.ref t, rfl, (by show 2 ≤ sizeLine; decide), fun tp htp => ⟨pairI u d, pairI 0 0, dp_pairI (.inl (.inl (Ex.new htp _ _ hT5))), dp_pairI (.inl (.inl upd_same)), pairI_shaped _ _, pairI_shaped _ _, _, rfl, ?_⟩⟩
        have e6 := Ex.new (o := .tup [V.int 0, V.int 0]) htp
        have hH6 := hH5.mono e6
        have hT6 := e6 _ _ hT5
        generalize upd H5 tp (.tup [V.int 0, V.int 0]) = H6 at e6 hH6 hT6
        rw [pairI_eqv]
        rcases htold with ⟨hz, rfl⟩ | ⟨hz, p, rfl, hP5⟩
        · -- the view sees nothing
          have hud := dist_zero.mp hz
          rw [decide_eq_true (show (u : Int) = 0 ∧ (d : Int) = 0 by omega)]
          refine iteT ?_
          refine ⟨_, rfl, rfl, _, rfl, iteF ?_⟩
          refine ⟨.ref t, rfl, t, u, d, rfl, .inl (.inl hT6), hu4, hd4, fun H7 e7 => ?_⟩
          refine ⟨rfl, _, rfl, ?_⟩
          rw [hz]
          refine iteF ?_
          exact ⟨⟨_, _, _, _, _, rfl⟩, hH6.mono e7, e7 _ _ hT6⟩
        · have hud : ¬ (u = 0 ∧ d = 0) := fun z => hz (dist_zero.mpr z)
          rw [decide_eq_false (show ¬ ((u : Int) = 0 ∧ (d : Int) = 0) by omega)]
          refine iteF ?_
          have hP6 := e6 _ _ hP5
          obtain ⟨dd, hdd⟩ : ∃ dd, distF u d = dd + 1 := ⟨distF u d - 1, by omega⟩
          have hdue' : due = ((dd : Nat) : Int) := by rw [hdue]; unfold dueI; rw [hdd]; omega
          rw [hdd, Nat.add_sub_cancel] at hP6
          clear hdue
          subst hdue'
          have hdiv : (dd : Int) / 2 = ((dd / 2 : Nat) : Int) := by omega
          refine ⟨.ref p, rfl, _, rfl, _, rfl, _, _, rfl, rfl, ⟨by decide, by decide⟩, (by show 2 ≤ sizeLine; decide), fun tq htq => ⟨pairI dd ((dd / 2 : Nat) : Int), pairI dd ((dd : Int) / 2), dp_pairI (.inl (.inl (Ex.new htq _ _ hP6))), dp_pairI (.inl (.inl upd_same)), pairI_shaped _ _, pairI_shaped _ _, _, rfl, ?_⟩⟩
          rw [pairI_eqv, decide_eq_true (show (dd : Int) = (dd : Int) ∧ ((dd / 2 : Nat) : Int) = (dd : Int) / 2 from ⟨rfl, hdiv.symm⟩)]
          refine iteF ?_
          have e7 := Ex.new (o := .tup [V.int (dd : Int), V.int ((dd : Int) / 2)]) htq
          have hH7 := hH6.mono e7
          have hT7 := e7 _ _ hT6
          have hP7 := e7 _ _ hP6
          generalize upd H6 tq (.tup [V.int (dd : Int), V.int ((dd : Int) / 2)]) = H7 at e7 hH7 hT7 hP7
          refine ⟨_, rfl, _, _, _, _, true, rfl, .ty _, ty_tup (.inl (.inl hP7)), kit_ty (by decide +kernel), true, rfl, iteF ?_⟩
          refine ⟨.ref t, rfl, t, u, d, rfl, .inl (.inl hT7), hu4, hd4, fun H8 e8 => ?_⟩
          refine ⟨_, rfl, _, _, rfl, rfl, rfl, _, rfl, ?_⟩
          rw [hdd]
          rw [show (!decide (VI (dd + 1) = V.int ((dd : Int) + 1))) = false from by rw [show ((dd : Int) + 1) = ((dd + 1 : Nat) : Int) by omega, decide_eq_true rfl]; rfl]
          refine iteF ?_
          have hH8 := hH7.mono e8
          have hT8 := e8 _ _ hT7
          clear e6 hH6 hT6 e7 hH7 hT7 hP6 hP7 hP5 hH5 hT5 htp htq
          refine ⟨_, rfl, h, c, 4, rfl, by decide, by decide, hH8, fun dr H9 hdr e9 hH9 => ?_⟩
          refine ⟨_, _, rfl, rfl, ?_⟩
          obtain ⟨m, hm⟩ : ∃ m, m = dr + 2 := ⟨_, rfl⟩
          rw [show (fun i j : Int => V.int (i + j)) 2 (dr : Int) = VI m from by show V.int (2 + (dr : Int)) = V.int (m : Int); rw [show (2 : Int) + (dr : Int) = ((m : Nat) : Int) by omega]]
          have nth : t ≠ h := fun z => by obtain ⟨ys, hy⟩ := hH8.lst; rw [← z, hT8] at hy; cases hy
          have hT9 := exd e9 hT8 nth
          -- hung
          refine ⟨_, rfl, _, rfl, h, c, m, rfl, by omega, by omega, hH9, fun tr hs H10 Tr hlen e10 hH10 hR10 => ?_⟩
          have hT10 := exd e10 hT9 nth
          -- all lots
          have smin : (if (m : Int) < (dd : Int) then (m : Int) else (dd : Int)) = ((min dd m : Nat) : Int) := by
            split <;> omega
          have hd5 : dd ≤ 5 := by omega
          refine ⟨_, rfl, _, rfl, _, rfl, _, _, rfl, m, min dd m, ?_, by omega, by omega, fun ll ys H11 bl e11 hL11 tL11 => ?_⟩
          · show [VI m, V.int (if (m : Int) < (dd : Int) then (m : Int) else (dd : Int))] = _
            rw [smin]
          refine ⟨ll, rfl, ⟨_, .inl (.inl hL11)⟩, ?_⟩
          have hyl := paired_len tL11
          have hH11 := hH10.mono e11
          have hT11 := e11 _ _ hT10
          have hR11 := e11 _ _ hR10
          have hll : ys.length ≤ 50000 := by
            rw [← hyl]
            have h1 := Nat.le_trans (lots_len m (min dd m)) (pow_small (b := 5) (t := 5) (by omega) (by omega) (by omega))
            omega
          refine lcL (.inl (.inl hL11)) (f := fun _ => true) (E := fun _ y _ => y = .bl true) (fun _ => mono_eq) hll (fun D j x H' hD e hys hx Qy Qn qy qn => ?_) (fun D zs H12 hD e12 hy hp => ?_)
          · obtain ⟨l, hl, la, rfl, hla⟩ := paired_at (tL11.mono e) hx
            obtain ⟨l1, l2, l3⟩ := lots_ok (List.mem_of_getElem? hl)
            have hin : ∀ x ∈ l, 1 ≤ x ∧ x ≤ hs.length := fun x hx => by
              obtain ⟨x1, x2, _⟩ := l3 x hx
              exact ⟨x1, by omega⟩
            refine yes_go rfl ?_
            refine ⟨_, rfl, _, rfl, _, rfl, tr, t, la, hs, u, d, l, 1, rfl, .inl (.inl (e _ _ hR11)), Tr, .inl (.inl (e _ _ hT11)), hu4, hd4, hla, l2, by omega, hin, left_one Tr hin (by omega) (by omega), fun H' e' => ?_⟩
            exact ⟨rfl, qy _ _ e' rfl rfl⟩
          · dsimp only [tNil]
            refine all_of hp (.inl (.inl hy)) ?_
            refine ⟨true, rfl, iteF ?_⟩
            have hH12 := hH11.mono e12
            have hT12 := e12 _ _ hT11
            -- the tree of forty
            refine ⟨_, rfl, h, c, 6, rfl, by decide, by decide, hH12, fun dq H13 hdq e13 hH13 => ⟨rfl, _, rfl, ite2 (fun _ => ?_) (fun _ => ?_)⟩⟩
            · have hT13 := exd e13 hT12 nth
              refine ⟨_, rfl, h, c, 40, rfl, by decide, by decide, hH13, fun tr2 hs2 H14 Tr2 hlen2 e14 hH14 hR14 => ?_⟩
              have hT14 := exd e14 hT13 nth
              have nrh : tr2 ≠ h := fun z => by obtain ⟨ys, hy⟩ := hH14.lst; rw [← z, hR14] at hy; cases hy
              refine ⟨_, rfl, by decide, by decide, ?_⟩
              refine forR0 (n := 4) rfl (fun j σ H' => (∃ y10, σ = [some (.ref a), some (.ref h), some (VI i), some (.ref t), some (VI u), some (VI d), some (.int dd), some (.ref p), some (VI m), some (.ref tr2), y10, y11]) ∧ HandAt H' h c ∧ H' t = some (.tup [VI u, VI d]) ∧ H' tr2 = some (.tup (vns hs2))) ⟨⟨_, rfl⟩, hH14, hT14, hR14⟩ ?_ ?_
              · rintro j σ H15 hj ⟨⟨y10, rfl⟩, hH15, hT15, hR15⟩
                refine ⟨_, rfl, _, rfl, _, rfl, _, rfl, h, c, 40, dd, rfl, by decide, by decide, by omega, hH15, fun tl lost H16 s1 s2 s3 e16 hH16 hL16 => ?_⟩
                have hT16 := exd e16 hT15 nth
                have hR16 := exd e16 hR15 nrh
                have hin : ∀ x ∈ lost, 1 ≤ x ∧ x ≤ hs2.length := fun x hx => by rw [hlen2]; exact s3 x hx
                refine ⟨tr2, t, tl, hs2, u, d, lost, 1, rfl, .inl (.inl hR16), Tr2, .inl (.inl hT16), hu4, hd4, .inl (.inl hL16), s1, by omega, hin, left_one Tr2 hin (by omega) (by omega), fun H17 e17 => ?_⟩
                refine ⟨rfl, _, rfl, iteF ?_⟩
                exact ⟨⟨_, rfl⟩, hH16.mono e17, e17 _ _ hT16, e17 _ _ hR16⟩
              · rintro σ H15 ⟨⟨y10, rfl⟩, hH15, hT15, hR15⟩
                exact ⟨⟨_, _, _, _, _, rfl⟩, hH15, hT15⟩
            · exact ⟨⟨_, _, _, _, _, rfl⟩, hH13, exd e13 hT12 nth⟩
      · rintro σ H6 ⟨⟨y7, y8, y9, y10, y11, rfl⟩, hH6, hT6⟩
        -- is it too much
        refine ⟨_, rfl, _, _, rfl, rfl, _, _, rfl, rfl, _, rfl, ite2 (fun hlt => ?_) (fun hlt => ?_)⟩
        · have hlt := of_decide_eq_true hlt
          refine ⟨.ref t, rfl, (by show 2 ≤ sizeLine; decide), fun tp htp => ⟨pairI u d, pairI 0 0, dp_pairI (.inl (.inl (Ex.new htp _ _ hT6))), dp_pairI (.inl (.inl upd_same)), pairI_shaped _ _, pairI_shaped _ _, _, rfl, ?_⟩⟩
          have e7 := Ex.new (o := .tup [V.int 0, V.int 0]) htp
          have hH7 := hH6.mono e7
          have hT7 := e7 _ _ hT6
          generalize upd H6 tp (.tup [V.int 0, V.int 0]) = H7 at e7 hH7 hT7
          rw [pairI_eqv]
          by_cases hud : u = 0 ∧ d = 0
          · rw [decide_eq_true (show (u : Int) = 0 ∧ (d : Int) = 0 by omega)]
            refine iteF ?_
            exact ⟨⟨_, _, _, _, _, _, _, _, _, _, rfl⟩, hH7⟩
          · rw [decide_eq_false (show ¬ ((u : Int) = 0 ∧ (d : Int) = 0) by omega)]
            refine iteT ?_
            have hz : distF u d ≠ 0 := fun z => hud (dist_zero.mp z)
            have hd2 : d ≤ 2 := by omega
            have hs5 : distF u d ≤ 5 := by unfold distF; split <;> split <;> omega
            refine ⟨.ref t, rfl, _, rfl, _, _, rfl, rfl, t, u, d, distF u d, ?_, .inl (.inl hT7), hu4, hd2, hs5, search_ok hu4 hd2 hud, fun H8 e8 => ?_⟩
            · rw [hdue]
              unfold dueI
              show [V.ref t, V.int ((distF u d : Int) - 1 + 1)] = _
              rw [show ((distF u d : Nat) : Int) - 1 + 1 = ((distF u d : Nat) : Int) by omega]
            · refine ⟨true, rfl, iteF ?_⟩
              exact ⟨⟨_, _, _, _, _, _, _, _, _, _, rfl⟩, hH7.mono e8⟩
        · exact ⟨⟨_, _, _, _, _, _, _, _, _, _, rfl⟩, hH6⟩
    · rintro σ H2 ⟨⟨y2, y3, y4, y5, y6, y7, y8, y9, y10, y11, rfl⟩, hH2⟩
      exact q _
end
end Fv
end
section
/-! the end: the head's run gives the facts, the facts give the texts, the walk gives the law -/
open PySem PySem.Spec PyProof.Rows
namespace Fv
open L2
theorem facts {P : Program} {w : World} {K : PySem.W.Frag} {h : Heap} {mg : Str → Option Value} {f : Addr} (X : K.In h) (G : h.Ns mainGlobals mg) (hfa : mg ("law" : Str) = some (.ref f)) (c : He.SaysD fa fn K) :
    ∃ fd : FuncData, (∀ (s : Shared) (v : Value), BindsTo s fd ⟨[v], []⟩ [("_law_script", v)]) ∧ ∀ base : Heap, FnOk P w K mg base CX0 10 f fd ["_law_script"] (sp_law K) := by
  have T := txt_mk X G c
  obtain ⟨fd, F⟩ := c.def_ 42 (d := d_law) rfl
  have e := hfa.symm.trans T.g_law
  cases e
  have b := FunD.bindsA (ps := ["_law_script"]) F fun _ _ _ _ _ _ us hl => match us, hl with | [_], _ => rfl
  exact ⟨fd, fun s v => b s [v] rfl, fun base => fn_law T (He5.fun_of F)⟩
end Fv
open PySem PySem.W PySem.Calls PyProof.Rows
theorem PySem.Challenge.cw_foldervotes_k14_whole_losses_that_are_al_holds : PySem.Challenge.rw_foldervotes_k14_whole_losses_that_are_al.Holds := by
  w_on; o_law
  refine HandSHeadRun.head_any (r := OpenLaw.row PySem.Challenge.rw_foldervotes_k14_whole_losses_that_are_al) (q := view (OpenLaw.row PySem.Challenge.rw_foldervotes_k14_whole_losses_that_are_al).prog [61]) (H := Fv.hk) (ob := Fv.ob) (M := 6000) (loose := Fv.names) (d := HandSHeadRun.topDef (OpenLaw.row PySem.Challenge.rw_foldervotes_k14_whole_losses_that_are_al).prog 61) (kwd := []) Fv.ob_eq
    (by kernel_rfl) (fun s => by kernel_rfl) Fv.run (by kernel_rfl) (by kernel_rfl) (by kernel_rfl) (by rfl) (by first | assumption | decide +kernel) (by decide +kernel) ⟨rfl, rfl, rfl, rfl, rfl, by decide +kernel⟩ ?hw ?hc
  case hw => w_witness2
  case hc =>
    refine L2.walk_ofE (l := PySem.Challenge.rw_foldervotes_k14_whole_losses_that_are_al) (n := 63) (k := 10) (x := "_law_script") (CX := L2.CX0) rfl (by decide) (by kernel_rfl) ⟨rfl, by decide, by decide⟩ ?F (fun _ _ _ _ z => z)
    intro w mg fa h Y G hmg0
    obtain ⟨K, KX, c⟩ := Y
    have hmg : mg ("law" : PySem.Str) = some (.ref fa) := by
      have e : (HandSHeadRun.topDef (OpenLaw.row PySem.Challenge.rw_foldervotes_k14_whole_losses_that_are_al).prog 61).name = ("law" : PySem.Str) := by kernel_rfl
      rw [← e]
      exact hmg0
    obtain ⟨fd, hb, hF⟩ := Fv.facts (P := (PySem.Challenge.rw_foldervotes_k14_whole_losses_that_are_al).prog) (w := w) KX G hmg c
    exact ⟨K, fd, Fv.sp_law K, KX, hb, fun H a ns hl _ hS => ⟨a, ns, rfl, hS, hl, fun _ => rfl⟩, fun base _ _ => hF base⟩
end
