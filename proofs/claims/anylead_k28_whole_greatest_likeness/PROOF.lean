import PyProof.Rows.All
import Wide.All
import OpenK.AllK
import Wide.FinOn
import PyProof.EqAt
import PyProof.EqKinds
import PyProof.TupleCall
import KE.KStateDown
import KE.KFromBytes
import KE.KLam
import Lean
import HandS.ForMost
import HandS.Deep
import HandS.TupAny
import HandS.TupSets
import HandS.IsInst
import HandS.Conv
import HandS.Style
import HandS.Walk
import HandS.Evl
import HandS.ClsMeth
import HandS.RevRange
import HandS.SortKw
import HandS.SetFor
import KE.DatumOrd
import KE.DatumMore
import KE.GoesEnum
import HandS.Defaults
import HandS.Exc
import HandS.ExcOwn
import HandS.ExcInit
import HandS.ExcField
import HandS.TryOnly
import HandS.WordsExc
import HandS.CallLocal
import HandS.Wide
import HandS.Lambda
import HandS.HeadHook1
import HandS.HeadHook2
import HandS.HeadHook3
import HandS.HeadHook4
import HandS.Head0
import HandS.Head1
import HandS.Head2
import HandS.EndBits
import HandS.EndTab
import HandS.HeadEnd
import HandS.HeadWalk
import PySem.Challenge.RW_anylead_k28_whole_greatest_likeness
set_option Elab.async false
set_option linter.all false
set_option maxRecDepth 100000
set_option maxHeartbeats 4000000
set_option Elab.async false
set_option linter.all false
set_option maxRecDepth 100000
set_option maxHeartbeats 4000000

namespace K28
open PySem PySem.Spec PyProof.Rows L2
/-! the text by places; what the head tells, by names -/
def top (i : Nat) : Stmt := PySem.Challenge.pw_anylead_k28_whole_greatest_likeness.main.body.getD i (.Pass ⟨0, 0, 0, 0⟩)
abbrev s_BadPlace___init__ : Stmt := inClass (top 5) 0
abbrev s_is_int : Stmt := top 7
abbrev s_is_row : Stmt := top 8
abbrev s_check_int : Stmt := top 9
abbrev s_check_place : Stmt := top 10
abbrev s_check_state : Stmt := top 11
abbrev s_as_tuples : Stmt := top 12
abbrev s_Move___init__ : Stmt := inClass (top 15) 0
abbrev s_Goal___init__ : Stmt := inClass (top 16) 0
abbrev s_is_condition : Stmt := top 17
abbrev s_are_conditions : Stmt := top 18
abbrev s_is_place_of : Stmt := top 19
abbrev s_is_move_of : Stmt := top 20
abbrev s_is_goal_of : Stmt := top 21
abbrev s_check_items : Stmt := top 22
abbrev s_Book___init__ : Stmt := inClass (top 23) 0
abbrev s_is_held : Stmt := top 24
abbrev s_holds : Stmt := top 25
abbrev s_moves_at : Stmt := top 26
abbrev s_is_goal : Stmt := top 27
abbrev s_divisor : Stmt := top 29
abbrev s_common : Stmt := top 30
abbrev s_conditions_of : Stmt := top 31
abbrev s_rests_of : Stmt := top 32
abbrev s_bound_of : Stmt := top 33
abbrev s_options : Stmt := top 35
abbrev s_window_of : Stmt := top 36
abbrev s_unanswered : Stmt := top 37
abbrev s_Strikes___init__ : Stmt := inClass (top 38) 0
abbrev s_Strikes_is_struck : Stmt := inClass (top 38) 1
abbrev s_Strikes_reason : Stmt := inClass (top 38) 2
abbrev s_Strikes_work : Stmt := inClass (top 38) 3
abbrev s_likeness : Stmt := top 39
abbrev s_check_pair : Stmt := top 40
abbrev s_is_alike : Stmt := top 41
abbrev s_classes : Stmt := top 42
abbrev s__law_pen : Stmt := top 44
abbrev s__law_draw : Stmt := top 45
abbrev s__law_pick : Stmt := top 46
abbrev s__law_is : Stmt := top 47
abbrev s__law_holds : Stmt := top 48
abbrev s__law_open : Stmt := top 49
abbrev s__law_is_goal : Stmt := top 50
abbrev s__law_some_condition : Stmt := top 51
abbrev s__law_some_conditions : Stmt := top 52
abbrev s__law_some_book : Stmt := top 53
abbrev s__law_taking_book : Stmt := top 54
abbrev s__law_drawn_book : Stmt := top 55
abbrev s__law_listed : Stmt := top 56
abbrev s__law_made_move : Stmt := top 57
abbrev s__law_made_goal : Stmt := top 58
abbrev s__law_made_book : Stmt := top 59
abbrev s__law_reach : Stmt := top 60
abbrev s__law_common : Stmt := top 61
abbrev s__law_width : Stmt := top 62
abbrev s__law_bound : Stmt := top 63
abbrev s__law_shuffled : Stmt := top 64
abbrev s__law_rewritten : Stmt := top 65
abbrev s__law_twin : Stmt := top 66
abbrev s__law_bent : Stmt := top 67
abbrev s__law_near_twin : Stmt := top 68
abbrev s__law_pattern : Stmt := top 69
abbrev s__law_mark : Stmt := top 70
abbrev s__law_classes : Stmt := top 71
abbrev s__law_alike : Stmt := top 72
abbrev s__law_numbered : Stmt := top 73
abbrev s__law_fault : Stmt := top 74
abbrev s_law : Stmt := top 75
def d_BadPlace___init__ : He.DefD := ⟨("BadPlace", some "__init__"), "__init__", "BadPlace.__init__", defArgs s_BadPlace___init__, defBody s_BadPlace___init__, defScope s_BadPlace___init__, [], []⟩
def d_is_int : He.DefD := ⟨("is_int", none), "is_int", "is_int", defArgs s_is_int, defBody s_is_int, defScope s_is_int, [], []⟩
def d_is_row : He.DefD := ⟨("is_row", none), "is_row", "is_row", defArgs s_is_row, defBody s_is_row, defScope s_is_row, [], []⟩
def d_check_int : He.DefD := ⟨("check_int", none), "check_int", "check_int", defArgs s_check_int, defBody s_check_int, defScope s_check_int, [], []⟩
def d_check_place : He.DefD := ⟨("check_place", none), "check_place", "check_place", defArgs s_check_place, defBody s_check_place, defScope s_check_place, [], []⟩
def d_check_state : He.DefD := ⟨("check_state", none), "check_state", "check_state", defArgs s_check_state, defBody s_check_state, defScope s_check_state, [], []⟩
def d_as_tuples : He.DefD := ⟨("as_tuples", none), "as_tuples", "as_tuples", defArgs s_as_tuples, defBody s_as_tuples, defScope s_as_tuples, [], []⟩
def d_Move___init__ : He.DefD := ⟨("Move", some "__init__"), "__init__", "Move.__init__", defArgs s_Move___init__, defBody s_Move___init__, defScope s_Move___init__, [], []⟩
def d_Goal___init__ : He.DefD := ⟨("Goal", some "__init__"), "__init__", "Goal.__init__", defArgs s_Goal___init__, defBody s_Goal___init__, defScope s_Goal___init__, [], []⟩
def d_is_condition : He.DefD := ⟨("is_condition", none), "is_condition", "is_condition", defArgs s_is_condition, defBody s_is_condition, defScope s_is_condition, [], []⟩
def d_are_conditions : He.DefD := ⟨("are_conditions", none), "are_conditions", "are_conditions", defArgs s_are_conditions, defBody s_are_conditions, defScope s_are_conditions, [], []⟩
def d_is_place_of : He.DefD := ⟨("is_place_of", none), "is_place_of", "is_place_of", defArgs s_is_place_of, defBody s_is_place_of, defScope s_is_place_of, [], []⟩
def d_is_move_of : He.DefD := ⟨("is_move_of", none), "is_move_of", "is_move_of", defArgs s_is_move_of, defBody s_is_move_of, defScope s_is_move_of, [], []⟩
def d_is_goal_of : He.DefD := ⟨("is_goal_of", none), "is_goal_of", "is_goal_of", defArgs s_is_goal_of, defBody s_is_goal_of, defScope s_is_goal_of, [], []⟩
def d_check_items : He.DefD := ⟨("check_items", none), "check_items", "check_items", defArgs s_check_items, defBody s_check_items, defScope s_check_items, [], []⟩
def d_Book___init__ : He.DefD := ⟨("Book", some "__init__"), "__init__", "Book.__init__", defArgs s_Book___init__, defBody s_Book___init__, defScope s_Book___init__, [], []⟩
def d_is_held : He.DefD := ⟨("is_held", none), "is_held", "is_held", defArgs s_is_held, defBody s_is_held, defScope s_is_held, [], []⟩
def d_holds : He.DefD := ⟨("holds", none), "holds", "holds", defArgs s_holds, defBody s_holds, defScope s_holds, [], []⟩
def d_moves_at : He.DefD := ⟨("moves_at", none), "moves_at", "moves_at", defArgs s_moves_at, defBody s_moves_at, defScope s_moves_at, [], []⟩
def d_is_goal : He.DefD := ⟨("is_goal", none), "is_goal", "is_goal", defArgs s_is_goal, defBody s_is_goal, defScope s_is_goal, [], []⟩
def d_divisor : He.DefD := ⟨("divisor", none), "divisor", "divisor", defArgs s_divisor, defBody s_divisor, defScope s_divisor, [], []⟩
def d_common : He.DefD := ⟨("common", none), "common", "common", defArgs s_common, defBody s_common, defScope s_common, [], []⟩
def d_conditions_of : He.DefD := ⟨("conditions_of", none), "conditions_of", "conditions_of", defArgs s_conditions_of, defBody s_conditions_of, defScope s_conditions_of, [], []⟩
def d_rests_of : He.DefD := ⟨("rests_of", none), "rests_of", "rests_of", defArgs s_rests_of, defBody s_rests_of, defScope s_rests_of, [], []⟩
def d_bound_of : He.DefD := ⟨("bound_of", none), "bound_of", "bound_of", defArgs s_bound_of, defBody s_bound_of, defScope s_bound_of, [], []⟩
def d_options : He.DefD := ⟨("options", none), "options", "options", defArgs s_options, defBody s_options, defScope s_options, [], []⟩
def d_window_of : He.DefD := ⟨("window_of", none), "window_of", "window_of", defArgs s_window_of, defBody s_window_of, defScope s_window_of, [], []⟩
def d_unanswered : He.DefD := ⟨("unanswered", none), "unanswered", "unanswered", defArgs s_unanswered, defBody s_unanswered, defScope s_unanswered, [], []⟩
def d_Strikes___init__ : He.DefD := ⟨("Strikes", some "__init__"), "__init__", "Strikes.__init__", defArgs s_Strikes___init__, defBody s_Strikes___init__, defScope s_Strikes___init__, [], []⟩
def d_Strikes_is_struck : He.DefD := ⟨("Strikes", some "is_struck"), "is_struck", "Strikes.is_struck", defArgs s_Strikes_is_struck, defBody s_Strikes_is_struck, defScope s_Strikes_is_struck, [], []⟩
def d_Strikes_reason : He.DefD := ⟨("Strikes", some "reason"), "reason", "Strikes.reason", defArgs s_Strikes_reason, defBody s_Strikes_reason, defScope s_Strikes_reason, [], []⟩
def d_Strikes_work : He.DefD := ⟨("Strikes", some "work"), "work", "Strikes.work", defArgs s_Strikes_work, defBody s_Strikes_work, defScope s_Strikes_work, [], []⟩
def d_likeness : He.DefD := ⟨("likeness", none), "likeness", "likeness", defArgs s_likeness, defBody s_likeness, defScope s_likeness, [], []⟩
def d_check_pair : He.DefD := ⟨("check_pair", none), "check_pair", "check_pair", defArgs s_check_pair, defBody s_check_pair, defScope s_check_pair, [], []⟩
def d_is_alike : He.DefD := ⟨("is_alike", none), "is_alike", "is_alike", defArgs s_is_alike, defBody s_is_alike, defScope s_is_alike, [], []⟩
def d_classes : He.DefD := ⟨("classes", none), "classes", "classes", defArgs s_classes, defBody s_classes, defScope s_classes, [], []⟩
def d__law_pen : He.DefD := ⟨("_law_pen", none), "_law_pen", "_law_pen", defArgs s__law_pen, defBody s__law_pen, defScope s__law_pen, [], []⟩
def d__law_draw : He.DefD := ⟨("_law_draw", none), "_law_draw", "_law_draw", defArgs s__law_draw, defBody s__law_draw, defScope s__law_draw, [], []⟩
def d__law_pick : He.DefD := ⟨("_law_pick", none), "_law_pick", "_law_pick", defArgs s__law_pick, defBody s__law_pick, defScope s__law_pick, [], []⟩
def d__law_is : He.DefD := ⟨("_law_is", none), "_law_is", "_law_is", defArgs s__law_is, defBody s__law_is, defScope s__law_is, [], []⟩
def d__law_holds : He.DefD := ⟨("_law_holds", none), "_law_holds", "_law_holds", defArgs s__law_holds, defBody s__law_holds, defScope s__law_holds, [], []⟩
def d__law_open : He.DefD := ⟨("_law_open", none), "_law_open", "_law_open", defArgs s__law_open, defBody s__law_open, defScope s__law_open, [], []⟩
def d__law_is_goal : He.DefD := ⟨("_law_is_goal", none), "_law_is_goal", "_law_is_goal", defArgs s__law_is_goal, defBody s__law_is_goal, defScope s__law_is_goal, [], []⟩
def d__law_some_condition : He.DefD := ⟨("_law_some_condition", none), "_law_some_condition", "_law_some_condition", defArgs s__law_some_condition, defBody s__law_some_condition, defScope s__law_some_condition, [], []⟩
def d__law_some_conditions : He.DefD := ⟨("_law_some_conditions", none), "_law_some_conditions", "_law_some_conditions", defArgs s__law_some_conditions, defBody s__law_some_conditions, defScope s__law_some_conditions, [], []⟩
def d__law_some_book : He.DefD := ⟨("_law_some_book", none), "_law_some_book", "_law_some_book", defArgs s__law_some_book, defBody s__law_some_book, defScope s__law_some_book, [], []⟩
def d__law_taking_book : He.DefD := ⟨("_law_taking_book", none), "_law_taking_book", "_law_taking_book", defArgs s__law_taking_book, defBody s__law_taking_book, defScope s__law_taking_book, [], []⟩
def d__law_drawn_book : He.DefD := ⟨("_law_drawn_book", none), "_law_drawn_book", "_law_drawn_book", defArgs s__law_drawn_book, defBody s__law_drawn_book, defScope s__law_drawn_book, [], []⟩
def d__law_listed : He.DefD := ⟨("_law_listed", none), "_law_listed", "_law_listed", defArgs s__law_listed, defBody s__law_listed, defScope s__law_listed, [], []⟩
def d__law_made_move : He.DefD := ⟨("_law_made_move", none), "_law_made_move", "_law_made_move", defArgs s__law_made_move, defBody s__law_made_move, defScope s__law_made_move, [], []⟩
def d__law_made_goal : He.DefD := ⟨("_law_made_goal", none), "_law_made_goal", "_law_made_goal", defArgs s__law_made_goal, defBody s__law_made_goal, defScope s__law_made_goal, [], []⟩
def d__law_made_book : He.DefD := ⟨("_law_made_book", none), "_law_made_book", "_law_made_book", defArgs s__law_made_book, defBody s__law_made_book, defScope s__law_made_book, [], []⟩
def d__law_reach : He.DefD := ⟨("_law_reach", none), "_law_reach", "_law_reach", defArgs s__law_reach, defBody s__law_reach, defScope s__law_reach, [], []⟩
def d__law_common : He.DefD := ⟨("_law_common", none), "_law_common", "_law_common", defArgs s__law_common, defBody s__law_common, defScope s__law_common, [], []⟩
def d__law_width : He.DefD := ⟨("_law_width", none), "_law_width", "_law_width", defArgs s__law_width, defBody s__law_width, defScope s__law_width, [], []⟩
def d__law_bound : He.DefD := ⟨("_law_bound", none), "_law_bound", "_law_bound", defArgs s__law_bound, defBody s__law_bound, defScope s__law_bound, [], []⟩
def d__law_shuffled : He.DefD := ⟨("_law_shuffled", none), "_law_shuffled", "_law_shuffled", defArgs s__law_shuffled, defBody s__law_shuffled, defScope s__law_shuffled, [], []⟩
def d__law_rewritten : He.DefD := ⟨("_law_rewritten", none), "_law_rewritten", "_law_rewritten", defArgs s__law_rewritten, defBody s__law_rewritten, defScope s__law_rewritten, [], []⟩
def d__law_twin : He.DefD := ⟨("_law_twin", none), "_law_twin", "_law_twin", defArgs s__law_twin, defBody s__law_twin, defScope s__law_twin, [], []⟩
def d__law_bent : He.DefD := ⟨("_law_bent", none), "_law_bent", "_law_bent", defArgs s__law_bent, defBody s__law_bent, defScope s__law_bent, [], []⟩
def d__law_near_twin : He.DefD := ⟨("_law_near_twin", none), "_law_near_twin", "_law_near_twin", defArgs s__law_near_twin, defBody s__law_near_twin, defScope s__law_near_twin, [], []⟩
def d__law_pattern : He.DefD := ⟨("_law_pattern", none), "_law_pattern", "_law_pattern", defArgs s__law_pattern, defBody s__law_pattern, defScope s__law_pattern, [], []⟩
def d__law_mark : He.DefD := ⟨("_law_mark", none), "_law_mark", "_law_mark", defArgs s__law_mark, defBody s__law_mark, defScope s__law_mark, [], []⟩
def d__law_classes : He.DefD := ⟨("_law_classes", none), "_law_classes", "_law_classes", defArgs s__law_classes, defBody s__law_classes, defScope s__law_classes, [], []⟩
def d__law_alike : He.DefD := ⟨("_law_alike", none), "_law_alike", "_law_alike", defArgs s__law_alike, defBody s__law_alike, defScope s__law_alike, [], []⟩
def d__law_numbered : He.DefD := ⟨("_law_numbered", none), "_law_numbered", "_law_numbered", defArgs s__law_numbered, defBody s__law_numbered, defScope s__law_numbered, [], []⟩
def d__law_fault : He.DefD := ⟨("_law_fault", none), "_law_fault", "_law_fault", defArgs s__law_fault, defBody s__law_fault, defScope s__law_fault, [], []⟩
def d_law : He.DefD := ⟨("law", none), "law", "law", defArgs s_law, defBody s_law, defScope s_law, [], []⟩
def fn0 : List He.DefD := [d_BadPlace___init__, d_is_int, d_is_row, d_check_int, d_check_place, d_check_state, d_as_tuples, d_Move___init__, d_Goal___init__, d_is_condition, d_are_conditions, d_is_place_of]
def fn1 : List He.DefD := [d_is_move_of, d_is_goal_of, d_check_items, d_Book___init__, d_is_held, d_holds, d_moves_at, d_is_goal, d_divisor, d_common, d_conditions_of, d_rests_of]
def fn2 : List He.DefD := [d_bound_of, d_options, d_window_of, d_unanswered, d_Strikes___init__, d_Strikes_is_struck, d_Strikes_reason, d_Strikes_work, d_likeness, d_check_pair, d_is_alike, d_classes]
def fn3 : List He.DefD := [d__law_pen, d__law_draw, d__law_pick, d__law_is, d__law_holds, d__law_open, d__law_is_goal, d__law_some_condition, d__law_some_conditions, d__law_some_book, d__law_taking_book, d__law_drawn_book]
def fn4 : List He.DefD := [d__law_listed, d__law_made_move, d__law_made_goal, d__law_made_book, d__law_reach, d__law_common, d__law_width, d__law_bound, d__law_shuffled, d__law_rewritten, d__law_twin, d__law_bent]
def fn5 : List He.DefD := [d__law_near_twin, d__law_pattern, d__law_mark, d__law_classes, d__law_alike, d__law_numbered, d__law_fault, d_law]
def fn : List He.DefD := fn0 ++ fn1 ++ fn2 ++ fn3 ++ fn4 ++ fn5
def fa0 : List He.Fa := [.glo "is_int", .glo "is_row", .glo "check_int", .glo "check_place", .glo "check_state", .glo "as_tuples", .glo "is_condition", .glo "are_conditions", .glo "is_place_of", .glo "is_move_of", .glo "is_goal_of", .glo "check_items"]
def fa1 : List He.Fa := [.glo "is_held", .glo "holds", .glo "moves_at", .glo "is_goal", .glo "divisor", .glo "common", .glo "conditions_of", .glo "rests_of", .glo "bound_of", .glo "options", .glo "window_of", .glo "unanswered"]
def fa2 : List He.Fa := [.glo "likeness", .glo "check_pair", .glo "is_alike", .glo "classes", .glo "_law_pen", .glo "_law_draw", .glo "_law_pick", .glo "_law_is", .glo "_law_holds", .glo "_law_open", .glo "_law_is_goal", .glo "_law_some_condition"]
def fa3 : List He.Fa := [.glo "_law_some_conditions", .glo "_law_some_book", .glo "_law_taking_book", .glo "_law_drawn_book", .glo "_law_listed", .glo "_law_made_move", .glo "_law_made_goal", .glo "_law_made_book", .glo "_law_reach", .glo "_law_common", .glo "_law_width", .glo "_law_bound"]
def fa4 : List He.Fa := [.glo "_law_shuffled", .glo "_law_rewritten", .glo "_law_twin", .glo "_law_bent", .glo "_law_near_twin", .glo "_law_pattern", .glo "_law_mark", .glo "_law_classes", .glo "_law_alike", .glo "_law_numbered", .glo "_law_fault", .glo "law"]
def fa5 : List He.Fa := [.glo "Move", .glo "Goal", .glo "Book", .glo "Strikes", .glo "BadPlace", .glo "LeadError", .glo "OTHER_WORDS", .cls "Move", .mkr "Move", .noat "Move" "place", .noat "Move" "conditions", .noat "Move" "shift"]
def fa6 : List He.Fa := [.noat "Move" "target", .cls "Goal", .mkr "Goal", .noat "Goal" "place", .noat "Goal" "conditions", .cls "Book", .mkr "Book", .noat "Book" "sides", .noat "Book" "places", .noat "Book" "moves", .noat "Book" "goals", .cls "Strikes"]
def fa7 : List He.Fa := [.mkr "Strikes", .noat "Strikes" "one", .noat "Strikes" "other", .noat "Strikes" "struck", .noat "Strikes" "sheets", .meth "Strikes" "is_struck", .meth "Strikes" "reason", .meth "Strikes" "work", .free "isinstance", .free "int", .free "bool", .free "str"]
def fa8 : List He.Fa := [.free "tuple", .free "list", .free "len", .free "all", .free "any", .free "enumerate", .free "range", .free "max", .free "abs", .free "set", .free "sorted", .free "sum"]
def fa9 : List He.Fa := [.free "ValueError", .exm "BadPlace" "BadPlace" true]
def fa : List He.Fa := fa0 ++ fa1 ++ fa2 ++ fa3 ++ fa4 ++ fa5 ++ fa6 ++ fa7 ++ fa8 ++ fa9
def ts : List He.Tab := [(fun K => He.ga K "OTHER_WORDS", ["least", "most", "is", "not"])]
def tf : List He.Defn := [("law", none)]
/-! what is asked besides, of BadPlace, LeadError and the plain classes -/
def oexB (K : PySem.W.Frag) (C : Addr) : Bool := match K.lookup C with
  | some ⟨.type "type", _, .cls cd, sl⟩ => (match cd.mro, sl.toList with
    | .ref C' :: bm, [_, _, _, _, some (.builtin n), _] => (C' == C && n == "ValueError.__new__") && (!cd.hasDel && (cd.hasDict && PySem.HandSPX.refsVE bm))
    | _, _ => false)
  | _ => false
def ldB (K : PySem.W.Frag) (C : Addr) : Bool := match PySem.W.findCls K (.ref C) (.type "type") "__init__" with
  | some (.val (.builtin n)) => n == "ValueError.__init__"
  | _ => false
abbrev cBad (K : PySem.W.Frag) : Addr := He.ga K "BadPlace"
abbrev cLead (K : PySem.W.Frag) : Addr := He.ga K "LeadError"
abbrev fBad (K : PySem.W.Frag) : Addr := He.ma K (cBad K) "__init__"
def isiB (K : PySem.W.Frag) (c : Str) : Bool := He.eqO (PySem.W.findIn K (.ref (He.ga K c)) "__class__") (some (some (.builtin "object.__class__"))) && (decide (PySem.W.mroIn K (He.ga K c) (.type "object") = some true) &&
  (decide (PySem.W.kitOne K (.ref (He.ga K c)) (.ref (He.ga K c)) = some true) && PySem.W.keepIn K (.ref (He.ga K c))))
def exL (K : PySem.W.Frag) : List Bool := [oexB K (cBad K), He.eqO (PySem.W.findIn K (.ref (cBad K)) "__setattr__") (some (some (.builtin "object.__setattr__"))), decide (PySem.W.subIn K (.ref (cBad K)) (.type "BaseException") = some true),
  decide (PySem.W.typeIn K (.ref (cBad K)) = some (.type "type")), PySem.W.keepIn K (.ref (cBad K)), xfB K (cBad K), He.eqO (PySem.W.findIn K (.ref (cBad K)) "value") (some none),
  He.eqO (PySem.W.findIn K (.ref (cBad K)) "__init__") (some (some (.ref (fBad K)))), decide (PySem.W.typeIn K (.ref (fBad K)) = some (.type "function")),
  PySem.W.readsIn K (cLead K) (.type "type"), He.eqO (PySem.W.specialIn K (.ref (cLead K)) "__getattribute__") (some (some (.builtin "type.__getattribute__"))), ldB K (cLead K),
  isiB K "Move", isiB K "Goal", He.eqO (PySem.W.specialIn K (.builtin "object.__class__") "__get__") (some (some (.builtin "getset_descriptor.__get__"))), decide (PySem.W.takesIn K (.builtin "object.__class__") = some true)]
def ex (K : PySem.W.Frag) : Bool := (exL K).all id
theorem ex_at {K : PySem.W.Frag} (h : ex K = true) (i : Nat) {b : Bool} (e : (exL K)[i]? = some b) : b = true := List.all_eq_true.mp h b (List.mem_of_getElem? e)
/-! the hook: the facts over what the module reaches and the statics -/
def reach (g : Addr → Option Obj) : List Addr := He.asD g 5 ++ [cStatics]
def obs0 (g : Addr → Option Obj) : He.AlX := (He.obsT fa fn ts (He.frT g (reach g)), ex (He.frT g (reach g)) && He.tabsB g tf (He.frT g (reach g)))
theorem says0 {w : World} {h : Heap} (e : obs0 h.get? = He.valX fn ts w) : He.SaysX fa fn ts tf ex w h (He.frT h.get? (reach h.get?)) := by
  generalize hk : He.frT h.get? (reach h.get?) = L
  have he : (He.obsT fa fn ts L, ex L && He.tabsB h.get? tf L) = He.valX fn ts w := by
    rw [← hk]
    exact e
  have e2 : (ex L && He.tabsB h.get? tf L) = true := (Prod.mk.inj he).2
  have all := List.all_eq_true.mp (He.ba e2).2
  have tab : ∀ p ∈ tf, ∃ o, h.get? (He.cT L p).2 = some o ∧ He.emptyTab o = true := fun p hp => by
    have y := (He.ba (all p hp)).2
    cases q : h.get? (He.cT L p).2 with
    | some o =>
      rw [q] at y
      exact ⟨o, rfl, y⟩
    | none =>
      rw [q] at y
      cases y
  constructor
  · exact (Prod.mk.inj he).1
  · exact (He.ba e2).1
  · exact fun p hp => (He.ba (all p hp)).1
  · intro p hp
    obtain ⟨o, a, b⟩ := tab p hp
    have z := He.frT_none (as := reach h.get?) a b
    rw [hk] at z
    exact z
  · intro p hp
    obtain ⟨o, a, b⟩ := tab p hp
    rw [a, He.emptyTab_eq b]
def hk0 : PySem.W.Hook where
  α := He.AlX
  obs := fun s => obs0 s.heap.get?
  val := fun w => He.valX fn ts w
  says := fun w h => ∃ L : PySem.W.Frag, L.In h ∧ He.SaysX fa fn ts tf ex w h L
  of := fun _ _ e => ⟨_, He.frT_in, says0 e⟩
  keeps := fun _ _ _ ⟨L, a, c⟩ k => ⟨L, a.keeps k, { t := c.t, more := c.more, hd := c.hd, out := c.out, empty := fun p hp => k _ _ (c.empty p hp) }⟩
/-- what the top has left, for the walks -/
structure Ctx (w : World) (K : PySem.W.Frag) (mg : Str → Option Value) : Prop where
  ex : ∃ h : Heap, K.In h ∧ h.Ns mainGlobals mg ∧ He.SaysX fa fn ts tf K28.ex w h K

section
variable {w : World} {K : PySem.W.Frag} {mg : Str → Option Value}
theorem Ctx.g_is_int (E : Ctx w K mg) : mg "is_int" = some (.ref (He.ga K "is_int")) := by
  obtain ⟨h, X, G, c⟩ := E.ex
  exact He.glo_ok X G (c.t.d.fact 0 (f := .glo "is_int") rfl)
theorem Ctx.g_is_row (E : Ctx w K mg) : mg "is_row" = some (.ref (He.ga K "is_row")) := by
  obtain ⟨h, X, G, c⟩ := E.ex
  exact He.glo_ok X G (c.t.d.fact 1 (f := .glo "is_row") rfl)
theorem Ctx.g_check_int (E : Ctx w K mg) : mg "check_int" = some (.ref (He.ga K "check_int")) := by
  obtain ⟨h, X, G, c⟩ := E.ex
  exact He.glo_ok X G (c.t.d.fact 2 (f := .glo "check_int") rfl)
theorem Ctx.g_check_place (E : Ctx w K mg) : mg "check_place" = some (.ref (He.ga K "check_place")) := by
  obtain ⟨h, X, G, c⟩ := E.ex
  exact He.glo_ok X G (c.t.d.fact 3 (f := .glo "check_place") rfl)
theorem Ctx.g_check_state (E : Ctx w K mg) : mg "check_state" = some (.ref (He.ga K "check_state")) := by
  obtain ⟨h, X, G, c⟩ := E.ex
  exact He.glo_ok X G (c.t.d.fact 4 (f := .glo "check_state") rfl)
theorem Ctx.g_as_tuples (E : Ctx w K mg) : mg "as_tuples" = some (.ref (He.ga K "as_tuples")) := by
  obtain ⟨h, X, G, c⟩ := E.ex
  exact He.glo_ok X G (c.t.d.fact 5 (f := .glo "as_tuples") rfl)
theorem Ctx.g_is_condition (E : Ctx w K mg) : mg "is_condition" = some (.ref (He.ga K "is_condition")) := by
  obtain ⟨h, X, G, c⟩ := E.ex
  exact He.glo_ok X G (c.t.d.fact 6 (f := .glo "is_condition") rfl)
theorem Ctx.g_are_conditions (E : Ctx w K mg) : mg "are_conditions" = some (.ref (He.ga K "are_conditions")) := by
  obtain ⟨h, X, G, c⟩ := E.ex
  exact He.glo_ok X G (c.t.d.fact 7 (f := .glo "are_conditions") rfl)
theorem Ctx.g_is_place_of (E : Ctx w K mg) : mg "is_place_of" = some (.ref (He.ga K "is_place_of")) := by
  obtain ⟨h, X, G, c⟩ := E.ex
  exact He.glo_ok X G (c.t.d.fact 8 (f := .glo "is_place_of") rfl)
theorem Ctx.g_is_move_of (E : Ctx w K mg) : mg "is_move_of" = some (.ref (He.ga K "is_move_of")) := by
  obtain ⟨h, X, G, c⟩ := E.ex
  exact He.glo_ok X G (c.t.d.fact 9 (f := .glo "is_move_of") rfl)
theorem Ctx.g_is_goal_of (E : Ctx w K mg) : mg "is_goal_of" = some (.ref (He.ga K "is_goal_of")) := by
  obtain ⟨h, X, G, c⟩ := E.ex
  exact He.glo_ok X G (c.t.d.fact 10 (f := .glo "is_goal_of") rfl)
theorem Ctx.g_check_items (E : Ctx w K mg) : mg "check_items" = some (.ref (He.ga K "check_items")) := by
  obtain ⟨h, X, G, c⟩ := E.ex
  exact He.glo_ok X G (c.t.d.fact 11 (f := .glo "check_items") rfl)
theorem Ctx.g_is_held (E : Ctx w K mg) : mg "is_held" = some (.ref (He.ga K "is_held")) := by
  obtain ⟨h, X, G, c⟩ := E.ex
  exact He.glo_ok X G (c.t.d.fact 12 (f := .glo "is_held") rfl)
theorem Ctx.g_holds (E : Ctx w K mg) : mg "holds" = some (.ref (He.ga K "holds")) := by
  obtain ⟨h, X, G, c⟩ := E.ex
  exact He.glo_ok X G (c.t.d.fact 13 (f := .glo "holds") rfl)
theorem Ctx.g_moves_at (E : Ctx w K mg) : mg "moves_at" = some (.ref (He.ga K "moves_at")) := by
  obtain ⟨h, X, G, c⟩ := E.ex
  exact He.glo_ok X G (c.t.d.fact 14 (f := .glo "moves_at") rfl)
theorem Ctx.g_is_goal (E : Ctx w K mg) : mg "is_goal" = some (.ref (He.ga K "is_goal")) := by
  obtain ⟨h, X, G, c⟩ := E.ex
  exact He.glo_ok X G (c.t.d.fact 15 (f := .glo "is_goal") rfl)
theorem Ctx.g_divisor (E : Ctx w K mg) : mg "divisor" = some (.ref (He.ga K "divisor")) := by
  obtain ⟨h, X, G, c⟩ := E.ex
  exact He.glo_ok X G (c.t.d.fact 16 (f := .glo "divisor") rfl)
theorem Ctx.g_common (E : Ctx w K mg) : mg "common" = some (.ref (He.ga K "common")) := by
  obtain ⟨h, X, G, c⟩ := E.ex
  exact He.glo_ok X G (c.t.d.fact 17 (f := .glo "common") rfl)
theorem Ctx.g_conditions_of (E : Ctx w K mg) : mg "conditions_of" = some (.ref (He.ga K "conditions_of")) := by
  obtain ⟨h, X, G, c⟩ := E.ex
  exact He.glo_ok X G (c.t.d.fact 18 (f := .glo "conditions_of") rfl)
theorem Ctx.g_rests_of (E : Ctx w K mg) : mg "rests_of" = some (.ref (He.ga K "rests_of")) := by
  obtain ⟨h, X, G, c⟩ := E.ex
  exact He.glo_ok X G (c.t.d.fact 19 (f := .glo "rests_of") rfl)
theorem Ctx.g_bound_of (E : Ctx w K mg) : mg "bound_of" = some (.ref (He.ga K "bound_of")) := by
  obtain ⟨h, X, G, c⟩ := E.ex
  exact He.glo_ok X G (c.t.d.fact 20 (f := .glo "bound_of") rfl)
theorem Ctx.g_options (E : Ctx w K mg) : mg "options" = some (.ref (He.ga K "options")) := by
  obtain ⟨h, X, G, c⟩ := E.ex
  exact He.glo_ok X G (c.t.d.fact 21 (f := .glo "options") rfl)
theorem Ctx.g_window_of (E : Ctx w K mg) : mg "window_of" = some (.ref (He.ga K "window_of")) := by
  obtain ⟨h, X, G, c⟩ := E.ex
  exact He.glo_ok X G (c.t.d.fact 22 (f := .glo "window_of") rfl)
theorem Ctx.g_unanswered (E : Ctx w K mg) : mg "unanswered" = some (.ref (He.ga K "unanswered")) := by
  obtain ⟨h, X, G, c⟩ := E.ex
  exact He.glo_ok X G (c.t.d.fact 23 (f := .glo "unanswered") rfl)
theorem Ctx.g_likeness (E : Ctx w K mg) : mg "likeness" = some (.ref (He.ga K "likeness")) := by
  obtain ⟨h, X, G, c⟩ := E.ex
  exact He.glo_ok X G (c.t.d.fact 24 (f := .glo "likeness") rfl)
theorem Ctx.g_check_pair (E : Ctx w K mg) : mg "check_pair" = some (.ref (He.ga K "check_pair")) := by
  obtain ⟨h, X, G, c⟩ := E.ex
  exact He.glo_ok X G (c.t.d.fact 25 (f := .glo "check_pair") rfl)
theorem Ctx.g_is_alike (E : Ctx w K mg) : mg "is_alike" = some (.ref (He.ga K "is_alike")) := by
  obtain ⟨h, X, G, c⟩ := E.ex
  exact He.glo_ok X G (c.t.d.fact 26 (f := .glo "is_alike") rfl)
theorem Ctx.g_classes (E : Ctx w K mg) : mg "classes" = some (.ref (He.ga K "classes")) := by
  obtain ⟨h, X, G, c⟩ := E.ex
  exact He.glo_ok X G (c.t.d.fact 27 (f := .glo "classes") rfl)
theorem Ctx.g__law_pen (E : Ctx w K mg) : mg "_law_pen" = some (.ref (He.ga K "_law_pen")) := by
  obtain ⟨h, X, G, c⟩ := E.ex
  exact He.glo_ok X G (c.t.d.fact 28 (f := .glo "_law_pen") rfl)
theorem Ctx.g__law_draw (E : Ctx w K mg) : mg "_law_draw" = some (.ref (He.ga K "_law_draw")) := by
  obtain ⟨h, X, G, c⟩ := E.ex
  exact He.glo_ok X G (c.t.d.fact 29 (f := .glo "_law_draw") rfl)
theorem Ctx.g__law_pick (E : Ctx w K mg) : mg "_law_pick" = some (.ref (He.ga K "_law_pick")) := by
  obtain ⟨h, X, G, c⟩ := E.ex
  exact He.glo_ok X G (c.t.d.fact 30 (f := .glo "_law_pick") rfl)
theorem Ctx.g__law_is (E : Ctx w K mg) : mg "_law_is" = some (.ref (He.ga K "_law_is")) := by
  obtain ⟨h, X, G, c⟩ := E.ex
  exact He.glo_ok X G (c.t.d.fact 31 (f := .glo "_law_is") rfl)
theorem Ctx.g__law_holds (E : Ctx w K mg) : mg "_law_holds" = some (.ref (He.ga K "_law_holds")) := by
  obtain ⟨h, X, G, c⟩ := E.ex
  exact He.glo_ok X G (c.t.d.fact 32 (f := .glo "_law_holds") rfl)
theorem Ctx.g__law_open (E : Ctx w K mg) : mg "_law_open" = some (.ref (He.ga K "_law_open")) := by
  obtain ⟨h, X, G, c⟩ := E.ex
  exact He.glo_ok X G (c.t.d.fact 33 (f := .glo "_law_open") rfl)
theorem Ctx.g__law_is_goal (E : Ctx w K mg) : mg "_law_is_goal" = some (.ref (He.ga K "_law_is_goal")) := by
  obtain ⟨h, X, G, c⟩ := E.ex
  exact He.glo_ok X G (c.t.d.fact 34 (f := .glo "_law_is_goal") rfl)
theorem Ctx.g__law_some_condition (E : Ctx w K mg) : mg "_law_some_condition" = some (.ref (He.ga K "_law_some_condition")) := by
  obtain ⟨h, X, G, c⟩ := E.ex
  exact He.glo_ok X G (c.t.d.fact 35 (f := .glo "_law_some_condition") rfl)
theorem Ctx.g__law_some_conditions (E : Ctx w K mg) : mg "_law_some_conditions" = some (.ref (He.ga K "_law_some_conditions")) := by
  obtain ⟨h, X, G, c⟩ := E.ex
  exact He.glo_ok X G (c.t.d.fact 36 (f := .glo "_law_some_conditions") rfl)
theorem Ctx.g__law_some_book (E : Ctx w K mg) : mg "_law_some_book" = some (.ref (He.ga K "_law_some_book")) := by
  obtain ⟨h, X, G, c⟩ := E.ex
  exact He.glo_ok X G (c.t.d.fact 37 (f := .glo "_law_some_book") rfl)
theorem Ctx.g__law_taking_book (E : Ctx w K mg) : mg "_law_taking_book" = some (.ref (He.ga K "_law_taking_book")) := by
  obtain ⟨h, X, G, c⟩ := E.ex
  exact He.glo_ok X G (c.t.d.fact 38 (f := .glo "_law_taking_book") rfl)
theorem Ctx.g__law_drawn_book (E : Ctx w K mg) : mg "_law_drawn_book" = some (.ref (He.ga K "_law_drawn_book")) := by
  obtain ⟨h, X, G, c⟩ := E.ex
  exact He.glo_ok X G (c.t.d.fact 39 (f := .glo "_law_drawn_book") rfl)
theorem Ctx.g__law_listed (E : Ctx w K mg) : mg "_law_listed" = some (.ref (He.ga K "_law_listed")) := by
  obtain ⟨h, X, G, c⟩ := E.ex
  exact He.glo_ok X G (c.t.d.fact 40 (f := .glo "_law_listed") rfl)
theorem Ctx.g__law_made_move (E : Ctx w K mg) : mg "_law_made_move" = some (.ref (He.ga K "_law_made_move")) := by
  obtain ⟨h, X, G, c⟩ := E.ex
  exact He.glo_ok X G (c.t.d.fact 41 (f := .glo "_law_made_move") rfl)
theorem Ctx.g__law_made_goal (E : Ctx w K mg) : mg "_law_made_goal" = some (.ref (He.ga K "_law_made_goal")) := by
  obtain ⟨h, X, G, c⟩ := E.ex
  exact He.glo_ok X G (c.t.d.fact 42 (f := .glo "_law_made_goal") rfl)
theorem Ctx.g__law_made_book (E : Ctx w K mg) : mg "_law_made_book" = some (.ref (He.ga K "_law_made_book")) := by
  obtain ⟨h, X, G, c⟩ := E.ex
  exact He.glo_ok X G (c.t.d.fact 43 (f := .glo "_law_made_book") rfl)
theorem Ctx.g__law_reach (E : Ctx w K mg) : mg "_law_reach" = some (.ref (He.ga K "_law_reach")) := by
  obtain ⟨h, X, G, c⟩ := E.ex
  exact He.glo_ok X G (c.t.d.fact 44 (f := .glo "_law_reach") rfl)
theorem Ctx.g__law_common (E : Ctx w K mg) : mg "_law_common" = some (.ref (He.ga K "_law_common")) := by
  obtain ⟨h, X, G, c⟩ := E.ex
  exact He.glo_ok X G (c.t.d.fact 45 (f := .glo "_law_common") rfl)
theorem Ctx.g__law_width (E : Ctx w K mg) : mg "_law_width" = some (.ref (He.ga K "_law_width")) := by
  obtain ⟨h, X, G, c⟩ := E.ex
  exact He.glo_ok X G (c.t.d.fact 46 (f := .glo "_law_width") rfl)
theorem Ctx.g__law_bound (E : Ctx w K mg) : mg "_law_bound" = some (.ref (He.ga K "_law_bound")) := by
  obtain ⟨h, X, G, c⟩ := E.ex
  exact He.glo_ok X G (c.t.d.fact 47 (f := .glo "_law_bound") rfl)
theorem Ctx.g__law_shuffled (E : Ctx w K mg) : mg "_law_shuffled" = some (.ref (He.ga K "_law_shuffled")) := by
  obtain ⟨h, X, G, c⟩ := E.ex
  exact He.glo_ok X G (c.t.d.fact 48 (f := .glo "_law_shuffled") rfl)
theorem Ctx.g__law_rewritten (E : Ctx w K mg) : mg "_law_rewritten" = some (.ref (He.ga K "_law_rewritten")) := by
  obtain ⟨h, X, G, c⟩ := E.ex
  exact He.glo_ok X G (c.t.d.fact 49 (f := .glo "_law_rewritten") rfl)
theorem Ctx.g__law_twin (E : Ctx w K mg) : mg "_law_twin" = some (.ref (He.ga K "_law_twin")) := by
  obtain ⟨h, X, G, c⟩ := E.ex
  exact He.glo_ok X G (c.t.d.fact 50 (f := .glo "_law_twin") rfl)
theorem Ctx.g__law_bent (E : Ctx w K mg) : mg "_law_bent" = some (.ref (He.ga K "_law_bent")) := by
  obtain ⟨h, X, G, c⟩ := E.ex
  exact He.glo_ok X G (c.t.d.fact 51 (f := .glo "_law_bent") rfl)
theorem Ctx.g__law_near_twin (E : Ctx w K mg) : mg "_law_near_twin" = some (.ref (He.ga K "_law_near_twin")) := by
  obtain ⟨h, X, G, c⟩ := E.ex
  exact He.glo_ok X G (c.t.d.fact 52 (f := .glo "_law_near_twin") rfl)
theorem Ctx.g__law_pattern (E : Ctx w K mg) : mg "_law_pattern" = some (.ref (He.ga K "_law_pattern")) := by
  obtain ⟨h, X, G, c⟩ := E.ex
  exact He.glo_ok X G (c.t.d.fact 53 (f := .glo "_law_pattern") rfl)
theorem Ctx.g__law_mark (E : Ctx w K mg) : mg "_law_mark" = some (.ref (He.ga K "_law_mark")) := by
  obtain ⟨h, X, G, c⟩ := E.ex
  exact He.glo_ok X G (c.t.d.fact 54 (f := .glo "_law_mark") rfl)
theorem Ctx.g__law_classes (E : Ctx w K mg) : mg "_law_classes" = some (.ref (He.ga K "_law_classes")) := by
  obtain ⟨h, X, G, c⟩ := E.ex
  exact He.glo_ok X G (c.t.d.fact 55 (f := .glo "_law_classes") rfl)
theorem Ctx.g__law_alike (E : Ctx w K mg) : mg "_law_alike" = some (.ref (He.ga K "_law_alike")) := by
  obtain ⟨h, X, G, c⟩ := E.ex
  exact He.glo_ok X G (c.t.d.fact 56 (f := .glo "_law_alike") rfl)
theorem Ctx.g__law_numbered (E : Ctx w K mg) : mg "_law_numbered" = some (.ref (He.ga K "_law_numbered")) := by
  obtain ⟨h, X, G, c⟩ := E.ex
  exact He.glo_ok X G (c.t.d.fact 57 (f := .glo "_law_numbered") rfl)
theorem Ctx.g__law_fault (E : Ctx w K mg) : mg "_law_fault" = some (.ref (He.ga K "_law_fault")) := by
  obtain ⟨h, X, G, c⟩ := E.ex
  exact He.glo_ok X G (c.t.d.fact 58 (f := .glo "_law_fault") rfl)
theorem Ctx.g_law (E : Ctx w K mg) : mg "law" = some (.ref (He.ga K "law")) := by
  obtain ⟨h, X, G, c⟩ := E.ex
  exact He.glo_ok X G (c.t.d.fact 59 (f := .glo "law") rfl)
theorem Ctx.g_Move (E : Ctx w K mg) : mg "Move" = some (.ref (He.ga K "Move")) := by
  obtain ⟨h, X, G, c⟩ := E.ex
  exact He.glo_ok X G (c.t.d.fact 60 (f := .glo "Move") rfl)
theorem Ctx.g_Goal (E : Ctx w K mg) : mg "Goal" = some (.ref (He.ga K "Goal")) := by
  obtain ⟨h, X, G, c⟩ := E.ex
  exact He.glo_ok X G (c.t.d.fact 61 (f := .glo "Goal") rfl)
theorem Ctx.g_Book (E : Ctx w K mg) : mg "Book" = some (.ref (He.ga K "Book")) := by
  obtain ⟨h, X, G, c⟩ := E.ex
  exact He.glo_ok X G (c.t.d.fact 62 (f := .glo "Book") rfl)
theorem Ctx.g_Strikes (E : Ctx w K mg) : mg "Strikes" = some (.ref (He.ga K "Strikes")) := by
  obtain ⟨h, X, G, c⟩ := E.ex
  exact He.glo_ok X G (c.t.d.fact 63 (f := .glo "Strikes") rfl)
theorem Ctx.g_BadPlace (E : Ctx w K mg) : mg "BadPlace" = some (.ref (He.ga K "BadPlace")) := by
  obtain ⟨h, X, G, c⟩ := E.ex
  exact He.glo_ok X G (c.t.d.fact 64 (f := .glo "BadPlace") rfl)
theorem Ctx.g_LeadError (E : Ctx w K mg) : mg "LeadError" = some (.ref (He.ga K "LeadError")) := by
  obtain ⟨h, X, G, c⟩ := E.ex
  exact He.glo_ok X G (c.t.d.fact 65 (f := .glo "LeadError") rfl)
theorem Ctx.g_OTHER_WORDS (E : Ctx w K mg) : mg "OTHER_WORDS" = some (.ref (He.ga K "OTHER_WORDS")) := by
  obtain ⟨h, X, G, c⟩ := E.ex
  exact He.glo_ok X G (c.t.d.fact 66 (f := .glo "OTHER_WORDS") rfl)
theorem Ctx.cls_Move (E : Ctx w K mg) : Cls K (He.ga K "Move") := by
  obtain ⟨h, X, G, c⟩ := E.ex
  exact He.cls_ok (c.t.d.fact 67 (f := .cls "Move") rfl)
theorem Ctx.mk_Move (E : Ctx w K mg) : Mk K (He.ga K "Move") (He.ma K (He.ga K "Move") "__init__") := by
  obtain ⟨h, X, G, c⟩ := E.ex
  exact He.mkr_ok (c.t.d.fact 68 (f := .mkr "Move") rfl)
theorem Ctx.na_Move_place (E : Ctx w K mg) : NoAttr K (He.ga K "Move") "place" := by
  obtain ⟨h, X, G, c⟩ := E.ex
  exact He.noat_ok (c.t.d.fact 69 (f := .noat "Move" "place") rfl)
theorem Ctx.na_Move_conditions (E : Ctx w K mg) : NoAttr K (He.ga K "Move") "conditions" := by
  obtain ⟨h, X, G, c⟩ := E.ex
  exact He.noat_ok (c.t.d.fact 70 (f := .noat "Move" "conditions") rfl)
theorem Ctx.na_Move_shift (E : Ctx w K mg) : NoAttr K (He.ga K "Move") "shift" := by
  obtain ⟨h, X, G, c⟩ := E.ex
  exact He.noat_ok (c.t.d.fact 71 (f := .noat "Move" "shift") rfl)
theorem Ctx.na_Move_target (E : Ctx w K mg) : NoAttr K (He.ga K "Move") "target" := by
  obtain ⟨h, X, G, c⟩ := E.ex
  exact He.noat_ok (c.t.d.fact 72 (f := .noat "Move" "target") rfl)
theorem Ctx.cls_Goal (E : Ctx w K mg) : Cls K (He.ga K "Goal") := by
  obtain ⟨h, X, G, c⟩ := E.ex
  exact He.cls_ok (c.t.d.fact 73 (f := .cls "Goal") rfl)
theorem Ctx.mk_Goal (E : Ctx w K mg) : Mk K (He.ga K "Goal") (He.ma K (He.ga K "Goal") "__init__") := by
  obtain ⟨h, X, G, c⟩ := E.ex
  exact He.mkr_ok (c.t.d.fact 74 (f := .mkr "Goal") rfl)
theorem Ctx.na_Goal_place (E : Ctx w K mg) : NoAttr K (He.ga K "Goal") "place" := by
  obtain ⟨h, X, G, c⟩ := E.ex
  exact He.noat_ok (c.t.d.fact 75 (f := .noat "Goal" "place") rfl)
theorem Ctx.na_Goal_conditions (E : Ctx w K mg) : NoAttr K (He.ga K "Goal") "conditions" := by
  obtain ⟨h, X, G, c⟩ := E.ex
  exact He.noat_ok (c.t.d.fact 76 (f := .noat "Goal" "conditions") rfl)
theorem Ctx.cls_Book (E : Ctx w K mg) : Cls K (He.ga K "Book") := by
  obtain ⟨h, X, G, c⟩ := E.ex
  exact He.cls_ok (c.t.d.fact 77 (f := .cls "Book") rfl)
theorem Ctx.mk_Book (E : Ctx w K mg) : Mk K (He.ga K "Book") (He.ma K (He.ga K "Book") "__init__") := by
  obtain ⟨h, X, G, c⟩ := E.ex
  exact He.mkr_ok (c.t.d.fact 78 (f := .mkr "Book") rfl)
theorem Ctx.na_Book_sides (E : Ctx w K mg) : NoAttr K (He.ga K "Book") "sides" := by
  obtain ⟨h, X, G, c⟩ := E.ex
  exact He.noat_ok (c.t.d.fact 79 (f := .noat "Book" "sides") rfl)
theorem Ctx.na_Book_places (E : Ctx w K mg) : NoAttr K (He.ga K "Book") "places" := by
  obtain ⟨h, X, G, c⟩ := E.ex
  exact He.noat_ok (c.t.d.fact 80 (f := .noat "Book" "places") rfl)
theorem Ctx.na_Book_moves (E : Ctx w K mg) : NoAttr K (He.ga K "Book") "moves" := by
  obtain ⟨h, X, G, c⟩ := E.ex
  exact He.noat_ok (c.t.d.fact 81 (f := .noat "Book" "moves") rfl)
theorem Ctx.na_Book_goals (E : Ctx w K mg) : NoAttr K (He.ga K "Book") "goals" := by
  obtain ⟨h, X, G, c⟩ := E.ex
  exact He.noat_ok (c.t.d.fact 82 (f := .noat "Book" "goals") rfl)
theorem Ctx.cls_Strikes (E : Ctx w K mg) : Cls K (He.ga K "Strikes") := by
  obtain ⟨h, X, G, c⟩ := E.ex
  exact He.cls_ok (c.t.d.fact 83 (f := .cls "Strikes") rfl)
theorem Ctx.mk_Strikes (E : Ctx w K mg) : Mk K (He.ga K "Strikes") (He.ma K (He.ga K "Strikes") "__init__") := by
  obtain ⟨h, X, G, c⟩ := E.ex
  exact He.mkr_ok (c.t.d.fact 84 (f := .mkr "Strikes") rfl)
theorem Ctx.na_Strikes_one (E : Ctx w K mg) : NoAttr K (He.ga K "Strikes") "one" := by
  obtain ⟨h, X, G, c⟩ := E.ex
  exact He.noat_ok (c.t.d.fact 85 (f := .noat "Strikes" "one") rfl)
theorem Ctx.na_Strikes_other (E : Ctx w K mg) : NoAttr K (He.ga K "Strikes") "other" := by
  obtain ⟨h, X, G, c⟩ := E.ex
  exact He.noat_ok (c.t.d.fact 86 (f := .noat "Strikes" "other") rfl)
theorem Ctx.na_Strikes_struck (E : Ctx w K mg) : NoAttr K (He.ga K "Strikes") "struck" := by
  obtain ⟨h, X, G, c⟩ := E.ex
  exact He.noat_ok (c.t.d.fact 87 (f := .noat "Strikes" "struck") rfl)
theorem Ctx.na_Strikes_sheets (E : Ctx w K mg) : NoAttr K (He.ga K "Strikes") "sheets" := by
  obtain ⟨h, X, G, c⟩ := E.ex
  exact He.noat_ok (c.t.d.fact 88 (f := .noat "Strikes" "sheets") rfl)
theorem Ctx.m_Strikes_is_struck (E : Ctx w K mg) : Meth K (He.ga K "Strikes") "is_struck" (He.ma K (He.ga K "Strikes") "is_struck") := by
  obtain ⟨h, X, G, c⟩ := E.ex
  exact He.meth_ok (c.t.d.fact 89 (f := .meth "Strikes" "is_struck") rfl)
theorem Ctx.m_Strikes_reason (E : Ctx w K mg) : Meth K (He.ga K "Strikes") "reason" (He.ma K (He.ga K "Strikes") "reason") := by
  obtain ⟨h, X, G, c⟩ := E.ex
  exact He.meth_ok (c.t.d.fact 90 (f := .meth "Strikes" "reason") rfl)
theorem Ctx.m_Strikes_work (E : Ctx w K mg) : Meth K (He.ga K "Strikes") "work" (He.ma K (He.ga K "Strikes") "work") := by
  obtain ⟨h, X, G, c⟩ := E.ex
  exact He.meth_ok (c.t.d.fact 91 (f := .meth "Strikes" "work") rfl)
theorem Ctx.f_isinstance (E : Ctx w K mg) : mg "isinstance" = none := by
  obtain ⟨h, X, G, c⟩ := E.ex
  exact He.free_ok X G (c.t.d.fact 92 (f := .free "isinstance") rfl)
theorem Ctx.f_int (E : Ctx w K mg) : mg "int" = none := by
  obtain ⟨h, X, G, c⟩ := E.ex
  exact He.free_ok X G (c.t.d.fact 93 (f := .free "int") rfl)
theorem Ctx.f_bool (E : Ctx w K mg) : mg "bool" = none := by
  obtain ⟨h, X, G, c⟩ := E.ex
  exact He.free_ok X G (c.t.d.fact 94 (f := .free "bool") rfl)
theorem Ctx.f_str (E : Ctx w K mg) : mg "str" = none := by
  obtain ⟨h, X, G, c⟩ := E.ex
  exact He.free_ok X G (c.t.d.fact 95 (f := .free "str") rfl)
theorem Ctx.f_tuple (E : Ctx w K mg) : mg "tuple" = none := by
  obtain ⟨h, X, G, c⟩ := E.ex
  exact He.free_ok X G (c.t.d.fact 96 (f := .free "tuple") rfl)
theorem Ctx.f_list (E : Ctx w K mg) : mg "list" = none := by
  obtain ⟨h, X, G, c⟩ := E.ex
  exact He.free_ok X G (c.t.d.fact 97 (f := .free "list") rfl)
theorem Ctx.f_len (E : Ctx w K mg) : mg "len" = none := by
  obtain ⟨h, X, G, c⟩ := E.ex
  exact He.free_ok X G (c.t.d.fact 98 (f := .free "len") rfl)
theorem Ctx.f_all (E : Ctx w K mg) : mg "all" = none := by
  obtain ⟨h, X, G, c⟩ := E.ex
  exact He.free_ok X G (c.t.d.fact 99 (f := .free "all") rfl)
theorem Ctx.f_any (E : Ctx w K mg) : mg "any" = none := by
  obtain ⟨h, X, G, c⟩ := E.ex
  exact He.free_ok X G (c.t.d.fact 100 (f := .free "any") rfl)
theorem Ctx.f_enumerate (E : Ctx w K mg) : mg "enumerate" = none := by
  obtain ⟨h, X, G, c⟩ := E.ex
  exact He.free_ok X G (c.t.d.fact 101 (f := .free "enumerate") rfl)
theorem Ctx.f_range (E : Ctx w K mg) : mg "range" = none := by
  obtain ⟨h, X, G, c⟩ := E.ex
  exact He.free_ok X G (c.t.d.fact 102 (f := .free "range") rfl)
theorem Ctx.f_max (E : Ctx w K mg) : mg "max" = none := by
  obtain ⟨h, X, G, c⟩ := E.ex
  exact He.free_ok X G (c.t.d.fact 103 (f := .free "max") rfl)
theorem Ctx.f_abs (E : Ctx w K mg) : mg "abs" = none := by
  obtain ⟨h, X, G, c⟩ := E.ex
  exact He.free_ok X G (c.t.d.fact 104 (f := .free "abs") rfl)
theorem Ctx.f_set (E : Ctx w K mg) : mg "set" = none := by
  obtain ⟨h, X, G, c⟩ := E.ex
  exact He.free_ok X G (c.t.d.fact 105 (f := .free "set") rfl)
theorem Ctx.f_sorted (E : Ctx w K mg) : mg "sorted" = none := by
  obtain ⟨h, X, G, c⟩ := E.ex
  exact He.free_ok X G (c.t.d.fact 106 (f := .free "sorted") rfl)
theorem Ctx.f_sum (E : Ctx w K mg) : mg "sum" = none := by
  obtain ⟨h, X, G, c⟩ := E.ex
  exact He.free_ok X G (c.t.d.fact 107 (f := .free "sum") rfl)
theorem Ctx.f_ValueError (E : Ctx w K mg) : mg "ValueError" = none := by
  obtain ⟨h, X, G, c⟩ := E.ex
  exact He.free_ok X G (c.t.d.fact 108 (f := .free "ValueError") rfl)
theorem Ctx.exm_BadPlace (E : Ctx w K mg) : PySem.W.exmOne K (.ref (He.ga K "BadPlace")) (.ref (He.ga K "BadPlace")) = some true := by
  obtain ⟨h, X, G, c⟩ := E.ex
  exact He.exm_ok (c.t.d.fact 109 (f := .exm "BadPlace" "BadPlace" true) rfl)
theorem Ctx.D_BadPlace___init__ (E : Ctx w K mg) : ∃ fd, FunD K "__init__" "BadPlace.__init__" (defArgs s_BadPlace___init__) (defBody s_BadPlace___init__) (defScope s_BadPlace___init__) [] [] (He.fAd K ("BadPlace", some "__init__")) fd := by
  obtain ⟨h, X, G, c⟩ := E.ex
  exact c.t.d.def_ 0 (d := d_BadPlace___init__) rfl
theorem Ctx.D_is_int (E : Ctx w K mg) : ∃ fd, FunD K "is_int" "is_int" (defArgs s_is_int) (defBody s_is_int) (defScope s_is_int) [] [] (He.fAd K ("is_int", none)) fd := by
  obtain ⟨h, X, G, c⟩ := E.ex
  exact c.t.d.def_ 1 (d := d_is_int) rfl
theorem Ctx.D_is_row (E : Ctx w K mg) : ∃ fd, FunD K "is_row" "is_row" (defArgs s_is_row) (defBody s_is_row) (defScope s_is_row) [] [] (He.fAd K ("is_row", none)) fd := by
  obtain ⟨h, X, G, c⟩ := E.ex
  exact c.t.d.def_ 2 (d := d_is_row) rfl
theorem Ctx.D_check_int (E : Ctx w K mg) : ∃ fd, FunD K "check_int" "check_int" (defArgs s_check_int) (defBody s_check_int) (defScope s_check_int) [] [] (He.fAd K ("check_int", none)) fd := by
  obtain ⟨h, X, G, c⟩ := E.ex
  exact c.t.d.def_ 3 (d := d_check_int) rfl
theorem Ctx.D_check_place (E : Ctx w K mg) : ∃ fd, FunD K "check_place" "check_place" (defArgs s_check_place) (defBody s_check_place) (defScope s_check_place) [] [] (He.fAd K ("check_place", none)) fd := by
  obtain ⟨h, X, G, c⟩ := E.ex
  exact c.t.d.def_ 4 (d := d_check_place) rfl
theorem Ctx.D_check_state (E : Ctx w K mg) : ∃ fd, FunD K "check_state" "check_state" (defArgs s_check_state) (defBody s_check_state) (defScope s_check_state) [] [] (He.fAd K ("check_state", none)) fd := by
  obtain ⟨h, X, G, c⟩ := E.ex
  exact c.t.d.def_ 5 (d := d_check_state) rfl
theorem Ctx.D_as_tuples (E : Ctx w K mg) : ∃ fd, FunD K "as_tuples" "as_tuples" (defArgs s_as_tuples) (defBody s_as_tuples) (defScope s_as_tuples) [] [] (He.fAd K ("as_tuples", none)) fd := by
  obtain ⟨h, X, G, c⟩ := E.ex
  exact c.t.d.def_ 6 (d := d_as_tuples) rfl
theorem Ctx.D_Move___init__ (E : Ctx w K mg) : ∃ fd, FunD K "__init__" "Move.__init__" (defArgs s_Move___init__) (defBody s_Move___init__) (defScope s_Move___init__) [] [] (He.fAd K ("Move", some "__init__")) fd := by
  obtain ⟨h, X, G, c⟩ := E.ex
  exact c.t.d.def_ 7 (d := d_Move___init__) rfl
theorem Ctx.D_Goal___init__ (E : Ctx w K mg) : ∃ fd, FunD K "__init__" "Goal.__init__" (defArgs s_Goal___init__) (defBody s_Goal___init__) (defScope s_Goal___init__) [] [] (He.fAd K ("Goal", some "__init__")) fd := by
  obtain ⟨h, X, G, c⟩ := E.ex
  exact c.t.d.def_ 8 (d := d_Goal___init__) rfl
theorem Ctx.D_is_condition (E : Ctx w K mg) : ∃ fd, FunD K "is_condition" "is_condition" (defArgs s_is_condition) (defBody s_is_condition) (defScope s_is_condition) [] [] (He.fAd K ("is_condition", none)) fd := by
  obtain ⟨h, X, G, c⟩ := E.ex
  exact c.t.d.def_ 9 (d := d_is_condition) rfl
theorem Ctx.D_are_conditions (E : Ctx w K mg) : ∃ fd, FunD K "are_conditions" "are_conditions" (defArgs s_are_conditions) (defBody s_are_conditions) (defScope s_are_conditions) [] [] (He.fAd K ("are_conditions", none)) fd := by
  obtain ⟨h, X, G, c⟩ := E.ex
  exact c.t.d.def_ 10 (d := d_are_conditions) rfl
theorem Ctx.D_is_place_of (E : Ctx w K mg) : ∃ fd, FunD K "is_place_of" "is_place_of" (defArgs s_is_place_of) (defBody s_is_place_of) (defScope s_is_place_of) [] [] (He.fAd K ("is_place_of", none)) fd := by
  obtain ⟨h, X, G, c⟩ := E.ex
  exact c.t.d.def_ 11 (d := d_is_place_of) rfl
theorem Ctx.D_is_move_of (E : Ctx w K mg) : ∃ fd, FunD K "is_move_of" "is_move_of" (defArgs s_is_move_of) (defBody s_is_move_of) (defScope s_is_move_of) [] [] (He.fAd K ("is_move_of", none)) fd := by
  obtain ⟨h, X, G, c⟩ := E.ex
  exact c.t.d.def_ 12 (d := d_is_move_of) rfl
theorem Ctx.D_is_goal_of (E : Ctx w K mg) : ∃ fd, FunD K "is_goal_of" "is_goal_of" (defArgs s_is_goal_of) (defBody s_is_goal_of) (defScope s_is_goal_of) [] [] (He.fAd K ("is_goal_of", none)) fd := by
  obtain ⟨h, X, G, c⟩ := E.ex
  exact c.t.d.def_ 13 (d := d_is_goal_of) rfl
theorem Ctx.D_check_items (E : Ctx w K mg) : ∃ fd, FunD K "check_items" "check_items" (defArgs s_check_items) (defBody s_check_items) (defScope s_check_items) [] [] (He.fAd K ("check_items", none)) fd := by
  obtain ⟨h, X, G, c⟩ := E.ex
  exact c.t.d.def_ 14 (d := d_check_items) rfl
theorem Ctx.D_Book___init__ (E : Ctx w K mg) : ∃ fd, FunD K "__init__" "Book.__init__" (defArgs s_Book___init__) (defBody s_Book___init__) (defScope s_Book___init__) [] [] (He.fAd K ("Book", some "__init__")) fd := by
  obtain ⟨h, X, G, c⟩ := E.ex
  exact c.t.d.def_ 15 (d := d_Book___init__) rfl
theorem Ctx.D_is_held (E : Ctx w K mg) : ∃ fd, FunD K "is_held" "is_held" (defArgs s_is_held) (defBody s_is_held) (defScope s_is_held) [] [] (He.fAd K ("is_held", none)) fd := by
  obtain ⟨h, X, G, c⟩ := E.ex
  exact c.t.d.def_ 16 (d := d_is_held) rfl
theorem Ctx.D_holds (E : Ctx w K mg) : ∃ fd, FunD K "holds" "holds" (defArgs s_holds) (defBody s_holds) (defScope s_holds) [] [] (He.fAd K ("holds", none)) fd := by
  obtain ⟨h, X, G, c⟩ := E.ex
  exact c.t.d.def_ 17 (d := d_holds) rfl
theorem Ctx.D_moves_at (E : Ctx w K mg) : ∃ fd, FunD K "moves_at" "moves_at" (defArgs s_moves_at) (defBody s_moves_at) (defScope s_moves_at) [] [] (He.fAd K ("moves_at", none)) fd := by
  obtain ⟨h, X, G, c⟩ := E.ex
  exact c.t.d.def_ 18 (d := d_moves_at) rfl
theorem Ctx.D_is_goal (E : Ctx w K mg) : ∃ fd, FunD K "is_goal" "is_goal" (defArgs s_is_goal) (defBody s_is_goal) (defScope s_is_goal) [] [] (He.fAd K ("is_goal", none)) fd := by
  obtain ⟨h, X, G, c⟩ := E.ex
  exact c.t.d.def_ 19 (d := d_is_goal) rfl
theorem Ctx.D_divisor (E : Ctx w K mg) : ∃ fd, FunD K "divisor" "divisor" (defArgs s_divisor) (defBody s_divisor) (defScope s_divisor) [] [] (He.fAd K ("divisor", none)) fd := by
  obtain ⟨h, X, G, c⟩ := E.ex
  exact c.t.d.def_ 20 (d := d_divisor) rfl
theorem Ctx.D_common (E : Ctx w K mg) : ∃ fd, FunD K "common" "common" (defArgs s_common) (defBody s_common) (defScope s_common) [] [] (He.fAd K ("common", none)) fd := by
  obtain ⟨h, X, G, c⟩ := E.ex
  exact c.t.d.def_ 21 (d := d_common) rfl
theorem Ctx.D_conditions_of (E : Ctx w K mg) : ∃ fd, FunD K "conditions_of" "conditions_of" (defArgs s_conditions_of) (defBody s_conditions_of) (defScope s_conditions_of) [] [] (He.fAd K ("conditions_of", none)) fd := by
  obtain ⟨h, X, G, c⟩ := E.ex
  exact c.t.d.def_ 22 (d := d_conditions_of) rfl
theorem Ctx.D_rests_of (E : Ctx w K mg) : ∃ fd, FunD K "rests_of" "rests_of" (defArgs s_rests_of) (defBody s_rests_of) (defScope s_rests_of) [] [] (He.fAd K ("rests_of", none)) fd := by
  obtain ⟨h, X, G, c⟩ := E.ex
  exact c.t.d.def_ 23 (d := d_rests_of) rfl
theorem Ctx.D_bound_of (E : Ctx w K mg) : ∃ fd, FunD K "bound_of" "bound_of" (defArgs s_bound_of) (defBody s_bound_of) (defScope s_bound_of) [] [] (He.fAd K ("bound_of", none)) fd := by
  obtain ⟨h, X, G, c⟩ := E.ex
  exact c.t.d.def_ 24 (d := d_bound_of) rfl
theorem Ctx.D_options (E : Ctx w K mg) : ∃ fd, FunD K "options" "options" (defArgs s_options) (defBody s_options) (defScope s_options) [] [] (He.fAd K ("options", none)) fd := by
  obtain ⟨h, X, G, c⟩ := E.ex
  exact c.t.d.def_ 25 (d := d_options) rfl
theorem Ctx.D_window_of (E : Ctx w K mg) : ∃ fd, FunD K "window_of" "window_of" (defArgs s_window_of) (defBody s_window_of) (defScope s_window_of) [] [] (He.fAd K ("window_of", none)) fd := by
  obtain ⟨h, X, G, c⟩ := E.ex
  exact c.t.d.def_ 26 (d := d_window_of) rfl
theorem Ctx.D_unanswered (E : Ctx w K mg) : ∃ fd, FunD K "unanswered" "unanswered" (defArgs s_unanswered) (defBody s_unanswered) (defScope s_unanswered) [] [] (He.fAd K ("unanswered", none)) fd := by
  obtain ⟨h, X, G, c⟩ := E.ex
  exact c.t.d.def_ 27 (d := d_unanswered) rfl
theorem Ctx.D_Strikes___init__ (E : Ctx w K mg) : ∃ fd, FunD K "__init__" "Strikes.__init__" (defArgs s_Strikes___init__) (defBody s_Strikes___init__) (defScope s_Strikes___init__) [] [] (He.fAd K ("Strikes", some "__init__")) fd := by
  obtain ⟨h, X, G, c⟩ := E.ex
  exact c.t.d.def_ 28 (d := d_Strikes___init__) rfl
theorem Ctx.D_Strikes_is_struck (E : Ctx w K mg) : ∃ fd, FunD K "is_struck" "Strikes.is_struck" (defArgs s_Strikes_is_struck) (defBody s_Strikes_is_struck) (defScope s_Strikes_is_struck) [] [] (He.fAd K ("Strikes", some "is_struck")) fd := by
  obtain ⟨h, X, G, c⟩ := E.ex
  exact c.t.d.def_ 29 (d := d_Strikes_is_struck) rfl
theorem Ctx.D_Strikes_reason (E : Ctx w K mg) : ∃ fd, FunD K "reason" "Strikes.reason" (defArgs s_Strikes_reason) (defBody s_Strikes_reason) (defScope s_Strikes_reason) [] [] (He.fAd K ("Strikes", some "reason")) fd := by
  obtain ⟨h, X, G, c⟩ := E.ex
  exact c.t.d.def_ 30 (d := d_Strikes_reason) rfl
theorem Ctx.D_Strikes_work (E : Ctx w K mg) : ∃ fd, FunD K "work" "Strikes.work" (defArgs s_Strikes_work) (defBody s_Strikes_work) (defScope s_Strikes_work) [] [] (He.fAd K ("Strikes", some "work")) fd := by
  obtain ⟨h, X, G, c⟩ := E.ex
  exact c.t.d.def_ 31 (d := d_Strikes_work) rfl
theorem Ctx.D_likeness (E : Ctx w K mg) : ∃ fd, FunD K "likeness" "likeness" (defArgs s_likeness) (defBody s_likeness) (defScope s_likeness) [] [] (He.fAd K ("likeness", none)) fd := by
  obtain ⟨h, X, G, c⟩ := E.ex
  exact c.t.d.def_ 32 (d := d_likeness) rfl
theorem Ctx.D_check_pair (E : Ctx w K mg) : ∃ fd, FunD K "check_pair" "check_pair" (defArgs s_check_pair) (defBody s_check_pair) (defScope s_check_pair) [] [] (He.fAd K ("check_pair", none)) fd := by
  obtain ⟨h, X, G, c⟩ := E.ex
  exact c.t.d.def_ 33 (d := d_check_pair) rfl
theorem Ctx.D_is_alike (E : Ctx w K mg) : ∃ fd, FunD K "is_alike" "is_alike" (defArgs s_is_alike) (defBody s_is_alike) (defScope s_is_alike) [] [] (He.fAd K ("is_alike", none)) fd := by
  obtain ⟨h, X, G, c⟩ := E.ex
  exact c.t.d.def_ 34 (d := d_is_alike) rfl
theorem Ctx.D_classes (E : Ctx w K mg) : ∃ fd, FunD K "classes" "classes" (defArgs s_classes) (defBody s_classes) (defScope s_classes) [] [] (He.fAd K ("classes", none)) fd := by
  obtain ⟨h, X, G, c⟩ := E.ex
  exact c.t.d.def_ 35 (d := d_classes) rfl
theorem Ctx.D__law_pen (E : Ctx w K mg) : ∃ fd, FunD K "_law_pen" "_law_pen" (defArgs s__law_pen) (defBody s__law_pen) (defScope s__law_pen) [] [] (He.fAd K ("_law_pen", none)) fd := by
  obtain ⟨h, X, G, c⟩ := E.ex
  exact c.t.d.def_ 36 (d := d__law_pen) rfl
theorem Ctx.D__law_draw (E : Ctx w K mg) : ∃ fd, FunD K "_law_draw" "_law_draw" (defArgs s__law_draw) (defBody s__law_draw) (defScope s__law_draw) [] [] (He.fAd K ("_law_draw", none)) fd := by
  obtain ⟨h, X, G, c⟩ := E.ex
  exact c.t.d.def_ 37 (d := d__law_draw) rfl
theorem Ctx.D__law_pick (E : Ctx w K mg) : ∃ fd, FunD K "_law_pick" "_law_pick" (defArgs s__law_pick) (defBody s__law_pick) (defScope s__law_pick) [] [] (He.fAd K ("_law_pick", none)) fd := by
  obtain ⟨h, X, G, c⟩ := E.ex
  exact c.t.d.def_ 38 (d := d__law_pick) rfl
theorem Ctx.D__law_is (E : Ctx w K mg) : ∃ fd, FunD K "_law_is" "_law_is" (defArgs s__law_is) (defBody s__law_is) (defScope s__law_is) [] [] (He.fAd K ("_law_is", none)) fd := by
  obtain ⟨h, X, G, c⟩ := E.ex
  exact c.t.d.def_ 39 (d := d__law_is) rfl
theorem Ctx.D__law_holds (E : Ctx w K mg) : ∃ fd, FunD K "_law_holds" "_law_holds" (defArgs s__law_holds) (defBody s__law_holds) (defScope s__law_holds) [] [] (He.fAd K ("_law_holds", none)) fd := by
  obtain ⟨h, X, G, c⟩ := E.ex
  exact c.t.d.def_ 40 (d := d__law_holds) rfl
theorem Ctx.D__law_open (E : Ctx w K mg) : ∃ fd, FunD K "_law_open" "_law_open" (defArgs s__law_open) (defBody s__law_open) (defScope s__law_open) [] [] (He.fAd K ("_law_open", none)) fd := by
  obtain ⟨h, X, G, c⟩ := E.ex
  exact c.t.d.def_ 41 (d := d__law_open) rfl
theorem Ctx.D__law_is_goal (E : Ctx w K mg) : ∃ fd, FunD K "_law_is_goal" "_law_is_goal" (defArgs s__law_is_goal) (defBody s__law_is_goal) (defScope s__law_is_goal) [] [] (He.fAd K ("_law_is_goal", none)) fd := by
  obtain ⟨h, X, G, c⟩ := E.ex
  exact c.t.d.def_ 42 (d := d__law_is_goal) rfl
theorem Ctx.D__law_some_condition (E : Ctx w K mg) : ∃ fd, FunD K "_law_some_condition" "_law_some_condition" (defArgs s__law_some_condition) (defBody s__law_some_condition) (defScope s__law_some_condition) [] [] (He.fAd K ("_law_some_condition", none)) fd := by
  obtain ⟨h, X, G, c⟩ := E.ex
  exact c.t.d.def_ 43 (d := d__law_some_condition) rfl
theorem Ctx.D__law_some_conditions (E : Ctx w K mg) : ∃ fd, FunD K "_law_some_conditions" "_law_some_conditions" (defArgs s__law_some_conditions) (defBody s__law_some_conditions) (defScope s__law_some_conditions) [] [] (He.fAd K ("_law_some_conditions", none)) fd := by
  obtain ⟨h, X, G, c⟩ := E.ex
  exact c.t.d.def_ 44 (d := d__law_some_conditions) rfl
theorem Ctx.D__law_some_book (E : Ctx w K mg) : ∃ fd, FunD K "_law_some_book" "_law_some_book" (defArgs s__law_some_book) (defBody s__law_some_book) (defScope s__law_some_book) [] [] (He.fAd K ("_law_some_book", none)) fd := by
  obtain ⟨h, X, G, c⟩ := E.ex
  exact c.t.d.def_ 45 (d := d__law_some_book) rfl
theorem Ctx.D__law_taking_book (E : Ctx w K mg) : ∃ fd, FunD K "_law_taking_book" "_law_taking_book" (defArgs s__law_taking_book) (defBody s__law_taking_book) (defScope s__law_taking_book) [] [] (He.fAd K ("_law_taking_book", none)) fd := by
  obtain ⟨h, X, G, c⟩ := E.ex
  exact c.t.d.def_ 46 (d := d__law_taking_book) rfl
theorem Ctx.D__law_drawn_book (E : Ctx w K mg) : ∃ fd, FunD K "_law_drawn_book" "_law_drawn_book" (defArgs s__law_drawn_book) (defBody s__law_drawn_book) (defScope s__law_drawn_book) [] [] (He.fAd K ("_law_drawn_book", none)) fd := by
  obtain ⟨h, X, G, c⟩ := E.ex
  exact c.t.d.def_ 47 (d := d__law_drawn_book) rfl
theorem Ctx.D__law_listed (E : Ctx w K mg) : ∃ fd, FunD K "_law_listed" "_law_listed" (defArgs s__law_listed) (defBody s__law_listed) (defScope s__law_listed) [] [] (He.fAd K ("_law_listed", none)) fd := by
  obtain ⟨h, X, G, c⟩ := E.ex
  exact c.t.d.def_ 48 (d := d__law_listed) rfl
theorem Ctx.D__law_made_move (E : Ctx w K mg) : ∃ fd, FunD K "_law_made_move" "_law_made_move" (defArgs s__law_made_move) (defBody s__law_made_move) (defScope s__law_made_move) [] [] (He.fAd K ("_law_made_move", none)) fd := by
  obtain ⟨h, X, G, c⟩ := E.ex
  exact c.t.d.def_ 49 (d := d__law_made_move) rfl
theorem Ctx.D__law_made_goal (E : Ctx w K mg) : ∃ fd, FunD K "_law_made_goal" "_law_made_goal" (defArgs s__law_made_goal) (defBody s__law_made_goal) (defScope s__law_made_goal) [] [] (He.fAd K ("_law_made_goal", none)) fd := by
  obtain ⟨h, X, G, c⟩ := E.ex
  exact c.t.d.def_ 50 (d := d__law_made_goal) rfl
theorem Ctx.D__law_made_book (E : Ctx w K mg) : ∃ fd, FunD K "_law_made_book" "_law_made_book" (defArgs s__law_made_book) (defBody s__law_made_book) (defScope s__law_made_book) [] [] (He.fAd K ("_law_made_book", none)) fd := by
  obtain ⟨h, X, G, c⟩ := E.ex
  exact c.t.d.def_ 51 (d := d__law_made_book) rfl
theorem Ctx.D__law_reach (E : Ctx w K mg) : ∃ fd, FunD K "_law_reach" "_law_reach" (defArgs s__law_reach) (defBody s__law_reach) (defScope s__law_reach) [] [] (He.fAd K ("_law_reach", none)) fd := by
  obtain ⟨h, X, G, c⟩ := E.ex
  exact c.t.d.def_ 52 (d := d__law_reach) rfl
theorem Ctx.D__law_common (E : Ctx w K mg) : ∃ fd, FunD K "_law_common" "_law_common" (defArgs s__law_common) (defBody s__law_common) (defScope s__law_common) [] [] (He.fAd K ("_law_common", none)) fd := by
  obtain ⟨h, X, G, c⟩ := E.ex
  exact c.t.d.def_ 53 (d := d__law_common) rfl
theorem Ctx.D__law_width (E : Ctx w K mg) : ∃ fd, FunD K "_law_width" "_law_width" (defArgs s__law_width) (defBody s__law_width) (defScope s__law_width) [] [] (He.fAd K ("_law_width", none)) fd := by
  obtain ⟨h, X, G, c⟩ := E.ex
  exact c.t.d.def_ 54 (d := d__law_width) rfl
theorem Ctx.D__law_bound (E : Ctx w K mg) : ∃ fd, FunD K "_law_bound" "_law_bound" (defArgs s__law_bound) (defBody s__law_bound) (defScope s__law_bound) [] [] (He.fAd K ("_law_bound", none)) fd := by
  obtain ⟨h, X, G, c⟩ := E.ex
  exact c.t.d.def_ 55 (d := d__law_bound) rfl
theorem Ctx.D__law_shuffled (E : Ctx w K mg) : ∃ fd, FunD K "_law_shuffled" "_law_shuffled" (defArgs s__law_shuffled) (defBody s__law_shuffled) (defScope s__law_shuffled) [] [] (He.fAd K ("_law_shuffled", none)) fd := by
  obtain ⟨h, X, G, c⟩ := E.ex
  exact c.t.d.def_ 56 (d := d__law_shuffled) rfl
theorem Ctx.D__law_rewritten (E : Ctx w K mg) : ∃ fd, FunD K "_law_rewritten" "_law_rewritten" (defArgs s__law_rewritten) (defBody s__law_rewritten) (defScope s__law_rewritten) [] [] (He.fAd K ("_law_rewritten", none)) fd := by
  obtain ⟨h, X, G, c⟩ := E.ex
  exact c.t.d.def_ 57 (d := d__law_rewritten) rfl
theorem Ctx.D__law_twin (E : Ctx w K mg) : ∃ fd, FunD K "_law_twin" "_law_twin" (defArgs s__law_twin) (defBody s__law_twin) (defScope s__law_twin) [] [] (He.fAd K ("_law_twin", none)) fd := by
  obtain ⟨h, X, G, c⟩ := E.ex
  exact c.t.d.def_ 58 (d := d__law_twin) rfl
theorem Ctx.D__law_bent (E : Ctx w K mg) : ∃ fd, FunD K "_law_bent" "_law_bent" (defArgs s__law_bent) (defBody s__law_bent) (defScope s__law_bent) [] [] (He.fAd K ("_law_bent", none)) fd := by
  obtain ⟨h, X, G, c⟩ := E.ex
  exact c.t.d.def_ 59 (d := d__law_bent) rfl
theorem Ctx.D__law_near_twin (E : Ctx w K mg) : ∃ fd, FunD K "_law_near_twin" "_law_near_twin" (defArgs s__law_near_twin) (defBody s__law_near_twin) (defScope s__law_near_twin) [] [] (He.fAd K ("_law_near_twin", none)) fd := by
  obtain ⟨h, X, G, c⟩ := E.ex
  exact c.t.d.def_ 60 (d := d__law_near_twin) rfl
theorem Ctx.D__law_pattern (E : Ctx w K mg) : ∃ fd, FunD K "_law_pattern" "_law_pattern" (defArgs s__law_pattern) (defBody s__law_pattern) (defScope s__law_pattern) [] [] (He.fAd K ("_law_pattern", none)) fd := by
  obtain ⟨h, X, G, c⟩ := E.ex
  exact c.t.d.def_ 61 (d := d__law_pattern) rfl
theorem Ctx.D__law_mark (E : Ctx w K mg) : ∃ fd, FunD K "_law_mark" "_law_mark" (defArgs s__law_mark) (defBody s__law_mark) (defScope s__law_mark) [] [] (He.fAd K ("_law_mark", none)) fd := by
  obtain ⟨h, X, G, c⟩ := E.ex
  exact c.t.d.def_ 62 (d := d__law_mark) rfl
theorem Ctx.D__law_classes (E : Ctx w K mg) : ∃ fd, FunD K "_law_classes" "_law_classes" (defArgs s__law_classes) (defBody s__law_classes) (defScope s__law_classes) [] [] (He.fAd K ("_law_classes", none)) fd := by
  obtain ⟨h, X, G, c⟩ := E.ex
  exact c.t.d.def_ 63 (d := d__law_classes) rfl
theorem Ctx.D__law_alike (E : Ctx w K mg) : ∃ fd, FunD K "_law_alike" "_law_alike" (defArgs s__law_alike) (defBody s__law_alike) (defScope s__law_alike) [] [] (He.fAd K ("_law_alike", none)) fd := by
  obtain ⟨h, X, G, c⟩ := E.ex
  exact c.t.d.def_ 64 (d := d__law_alike) rfl
theorem Ctx.D__law_numbered (E : Ctx w K mg) : ∃ fd, FunD K "_law_numbered" "_law_numbered" (defArgs s__law_numbered) (defBody s__law_numbered) (defScope s__law_numbered) [] [] (He.fAd K ("_law_numbered", none)) fd := by
  obtain ⟨h, X, G, c⟩ := E.ex
  exact c.t.d.def_ 65 (d := d__law_numbered) rfl
theorem Ctx.D__law_fault (E : Ctx w K mg) : ∃ fd, FunD K "_law_fault" "_law_fault" (defArgs s__law_fault) (defBody s__law_fault) (defScope s__law_fault) [] [] (He.fAd K ("_law_fault", none)) fd := by
  obtain ⟨h, X, G, c⟩ := E.ex
  exact c.t.d.def_ 66 (d := d__law_fault) rfl
theorem Ctx.D_law (E : Ctx w K mg) : ∃ fd, FunD K "law" "law" (defArgs s_law) (defBody s_law) (defScope s_law) [] [] (He.fAd K ("law", none)) fd := by
  obtain ⟨h, X, G, c⟩ := E.ex
  exact c.t.d.def_ 67 (d := d_law) rfl
end
end K28

set_option Elab.async false
set_option linter.all false
set_option maxRecDepth 100000
set_option maxHeartbeats 0
namespace K28
open PySem PySem.Spec PyProof.Rows L2
abbrev R : PySem.W.OpenRow := PySem.W.OpenLaw.row PySem.Challenge.rw_anylead_k28_whole_greatest_likeness
abbrev qv : Program := PySem.W.view R.prog [75]
def ob (s : PySem.W.SharedT) : He.AlX := obs0 (HandSHeadRun.getT s)
theorem ob_eq (s : PySem.W.SharedT) : ob s = hk0.obs s.abs := by
  have e : HandSHeadRun.getT s = s.abs.heap.get? := funext (HandSHeadRun.getT_eq s)
  show obs0 (HandSHeadRun.getT s) = obs0 s.abs.heap.get?
  rw [e]
def n1 : List PySem.Str := [("_wall" : PySem.Str), ("__name__" : PySem.Str), ("LeadError" : PySem.Str), ("BadNumber" : PySem.Str), ("BadBook" : PySem.Str), ("BadPlace" : PySem.Str), ("is_int" : PySem.Str), ("is_row" : PySem.Str), ("check_int" : PySem.Str), ("check_place" : PySem.Str), ("check_state" : PySem.Str), ("as_tuples" : PySem.Str), ("OTHER_WORDS" : PySem.Str), ("Move" : PySem.Str), ("Goal" : PySem.Str), ("is_condition" : PySem.Str)]
def n2 : List PySem.Str := [("are_conditions" : PySem.Str), ("is_place_of" : PySem.Str), ("is_move_of" : PySem.Str), ("is_goal_of" : PySem.Str), ("check_items" : PySem.Str), ("Book" : PySem.Str), ("is_held" : PySem.Str), ("holds" : PySem.Str), ("moves_at" : PySem.Str), ("is_goal" : PySem.Str), ("divisor" : PySem.Str), ("common" : PySem.Str), ("conditions_of" : PySem.Str), ("rests_of" : PySem.Str), ("bound_of" : PySem.Str), ("options" : PySem.Str)]
def n3 : List PySem.Str := [("window_of" : PySem.Str), ("unanswered" : PySem.Str), ("Strikes" : PySem.Str), ("likeness" : PySem.Str), ("check_pair" : PySem.Str), ("is_alike" : PySem.Str), ("classes" : PySem.Str), ("_law_pen" : PySem.Str), ("_law_draw" : PySem.Str), ("_law_pick" : PySem.Str), ("_law_is" : PySem.Str), ("_law_holds" : PySem.Str), ("_law_open" : PySem.Str), ("_law_is_goal" : PySem.Str), ("_law_some_condition" : PySem.Str), ("_law_some_conditions" : PySem.Str)]
def n4 : List PySem.Str := [("_law_some_book" : PySem.Str), ("_law_taking_book" : PySem.Str), ("_law_drawn_book" : PySem.Str), ("_law_listed" : PySem.Str), ("_law_made_move" : PySem.Str), ("_law_made_goal" : PySem.Str), ("_law_made_book" : PySem.Str), ("_law_reach" : PySem.Str), ("_law_common" : PySem.Str), ("_law_width" : PySem.Str), ("_law_bound" : PySem.Str), ("_law_shuffled" : PySem.Str), ("_law_rewritten" : PySem.Str), ("_law_twin" : PySem.Str), ("_law_bent" : PySem.Str), ("_law_near_twin" : PySem.Str)]
def n5 : List PySem.Str := [("_law_pattern" : PySem.Str), ("_law_mark" : PySem.Str), ("_law_classes" : PySem.Str), ("_law_alike" : PySem.Str), ("_law_numbered" : PySem.Str), ("_law_fault" : PySem.Str)]
def names : List PySem.Str := n1 ++ n2 ++ n3 ++ n4 ++ n5
theorem runF (w : World) : HandSHeadRun.RunEq R qv hk0 ob 6000 names (w.withFollow "special-get-raises" Bool.false) := by
  intro os
  kernel_rfl
theorem runT (w : World) : HandSHeadRun.RunEq R qv hk0 ob 6000 names (w.withFollow "special-get-raises" Bool.true) := by
  intro os
  kernel_rfl
theorem run (w : World) : HandSHeadRun.RunEq R qv hk0 ob 6000 names w :=
  PySem.W.byRow2 "special-get-raises" (P := fun w => HandSHeadRun.RunEq R qv hk0 ob 6000 names w) runF runT w
end K28

set_option Elab.async false
set_option linter.all false
set_option maxRecDepth 100000
set_option maxHeartbeats 4000000
namespace K28
open PySem PySem.Spec PyProof.Rows L2
open Evl (Ex)
/-! ## a def of the text, a method, a maker: what keeps which promise -/
section
variable (P : Program) (w : World) (K : PySem.W.Frag) (mg : Str → Option Value) (base : Heap)
def DefOk (x : Str) (ps : List Str) (k : Nat) (sp : Sp) : Prop := ∃ (f : Addr) (fd : FuncData), FnOk P w K mg base CX0 k f fd ps sp ∧ Binds K fd ps [] ∧ mg x = some (.ref f) ∧ PySem.W.keepIn K (.ref f) = true
def MthOk (C : Addr) (m : Str) (ps : List Str) (k : Nat) (sp : Sp) : Prop := ∃ (f : Addr) (fd : FuncData), FnOk P w K mg base CX0 k f fd ps sp ∧ Binds K fd ps [] ∧ Meth K C m f
def MkOk (x : Str) (C : Addr) (ps : List Str) (k : Nat) (sp : Sp) : Prop := ∃ (f : Addr) (fd : FuncData), FnOk P w K mg base CX0 k f fd ps sp ∧ Binds K fd ps [] ∧ Mk K C f ∧ mg x = some (.ref C)
end
abbrev tFn (sp : Sp) (t : TA) : TE := tCall sp [] E0 t
abbrev tMth (C : Addr) (m : Str) (sp : Sp) (ta : TE) (t : TA) : TE := tMeth C m sp [] E0 ta t
section
variable {X : Cx} {x m : Str} {ps : List Str} {k : Nat} {sp : Sp} {e o : Expr} {es : List Expr} {t : TA} {ta : TE} {p pos apos : Pos} {C : Addr}
theorem pe_fn (D : DefOk X.prog X.w X.K X.mg X.base x ps k sp) (hr : Room k X.A) (hg : Gl X x) (ha : PA X (e :: es) t) (hdb : (x == ("__debug__" : Str)) = false := by decide)
    (he : starEach (e :: es) X.env = (false, eval e X.env) :: starEach es X.env := by rfl) (hpl : (backTo pos (starEach es X.env)).any (·.1) = false := by rfl) : PE X (.Call (.Name x p) (e :: es) [] pos) (tFn sp t) := by
  obtain ⟨f, fd, F, b, g, kp⟩ := D
  exact pe_call F hr hg g kp b .nil pass0 ha hdb he hpl
theorem pe_mth {pl : Sem Bool} (D : MthOk X.prog X.w X.K X.mg X.base C m ps k sp) (c : Cls X.K C) (hr : Room k X.A) (he : PE X o ta) (ha : PA X (e :: es) t)
    (hst : starEach (e :: es) X.env = (false, eval e X.env) :: starEach es X.env := by rfl) (hpl : (backTo pos (starEach es X.env)).any (·.1) = false := by rfl)
    (ht : eval (.Call (.Attribute o m apos) (e :: es) [] pos) X.env = (do
      let ov ← eval o X.env
      standAt apos.atName
      let q ← holding [ov] (getMethod ov m pl)
      callWith pos q.1 q.2 (backTo pos (starEach (e :: es) X.env)) (backToKw pos (keywordEach [] X.env))) := by rfl) :
    PE X (.Call (.Attribute o m apos) (e :: es) [] pos) (tMth C m sp ta t) := by
  obtain ⟨f, fd, F, b, mt⟩ := D
  exact pe_meth (pl := pl) he c mt F hr b .nil pass0 ha hst hpl ht
theorem pe_mth0 {pl : Sem Bool} (D : MthOk X.prog X.w X.K X.mg X.base C m ps k sp) (c : Cls X.K C) (hr : Room k X.A) (he : PE X o ta)
    (ht : eval (.Call (.Attribute o m apos) [] [] pos) X.env = (do
      let ov ← eval o X.env
      standAt apos.atName
      let q ← holding [ov] (getMethod ov m pl)
      callWith pos q.1 q.2 (backTo pos (starEach [] X.env)) (backToKw pos (keywordEach [] X.env))) := by rfl) :
    PE X (.Call (.Attribute o m apos) [] [] pos) (tMth C m sp ta tNil) := by
  obtain ⟨f, fd, F, b, mt⟩ := D
  exact pe_meth0 (pl := pl) he c mt F hr b .nil pass0 ht
theorem pe_new (D : MkOk X.prog X.w X.K X.mg X.base x C ps k sp) (hr : Room (k + 1) X.A) (hg : Gl X x) (ha : PA X (e :: es) t) (hdb : (x == ("__debug__" : Str)) = false := by decide)
    (he : starEach (e :: es) X.env = (false, eval e X.env) :: starEach es X.env := by rfl) (hpl : (backTo pos (starEach es X.env)).any (·.1) = false := by rfl) : PE X (.Call (.Name x p) (e :: es) [] pos) (tMake C sp [] E0 t) := by
  obtain ⟨f, fd, F, b, M, g⟩ := D
  exact pe_make M F hr hg g b .nil pass0 ha hdb he hpl
end
section
variable {P : Program} {w : World} {K : PySem.W.Frag} {mg : Str → Option Value} {base : Heap} {x q : Str} {st : Stmt} {f C : Addr} {N ps : List Str} {k : Nat} {sp : Sp} {t : TS}
/-- a def's body: what it keeps -/
theorem fn_mk {fd : FuncData} (F : FunD K x q (defArgs st) (defBody st) (defScope st) [] [] f fd) (S : FnScope N ps (defScope st))
    (rd : ∀ vs H Q E, sp vs H Q E → vs.length = ps.length ∧ t { nx := fun _ H' => Q .non H', rt := Q } (start N vs) H)
    (body : ∀ (cdv : Value) (A : Around) (outer : List Env) (s : Shared) (H : Hp) (E : XK), Room k (A.deeper (envOfC q (defScope st) s.heap.objs.size f cdv)) → PSs (cxOf CX0 P w K mg base N q (defScope st) f cdv A outer s H E).nox (defBody st) t) :
    FnOk P w K mg base CX0 (k + 1) f fd ps sp :=
  F.ok S (fun vs H Q E h => (rd vs H Q E h).1) fun cdv A outer s H vs Q E hr h => ⟨t, (body cdv A outer s H E hr).nox, (rd vs H Q E h).2⟩
end
/-! ## short names of readings -/
abbrev rAddI : R2 := rI0 fun i j => .int (i + j)
abbrev rSubI : R2 := rI0 fun i j => .int (i - j)
abbrev rMulI : R2 := rI CMul fun i j => .int (i * j)
abbrev rFdivI : R2 := rI CDivN fun i j => .int (i.fdiv j)
abbrev rModI : R2 := rI (fun _ j => 0 < j) fun i j => .int (i % j)
abbrev rPowI : R2 := rI CPow fun i j => .int (i ^ j.toNat)
abbrev rNegI : V → Hp → VK → Prop := rU fun i => .int (-i)
abbrev rLtI : R2 := rI0 fun i j => .bl (decide (i < j))
abbrev rLeI : R2 := rI0 fun i j => .bl (decide (i ≤ j))
abbrev rGtI : R2 := rI0 fun i j => .bl (decide (j < i))
abbrev rGeI : R2 := rI0 fun i j => .bl (decide (j ≤ i))
abbrev rIsNn : R2 := fun x y H Q => y = .non ∧ Q (.bl (decide (x = .non))) H
abbrev rNotNn : R2 := fun x y H Q => y = .non ∧ Q (.bl (!decide (x = .non))) H
abbrev rAbsI : List V → Hp → VK → Prop := fun xs H Q => ∃ i, xs = [.int i] ∧ Q (.int (if i < 0 then -i else i)) H
abbrev rMax2I : List V → Hp → VK → Prop := fun xs H Q => ∃ i j, xs = [.int i, .int j] ∧ Q (.int (if j > i then j else i)) H
abbrev rLenX (K : PySem.W.Frag) : List V → Hp → VK → Prop := fun xs H Q => ∃ x n, xs = [x] ∧ LenV K x H n ∧ Q (.int n) H
abbrev rInt1 : List V → Hp → VK → Prop := fun xs H Q => (∃ i, xs = [.int i] ∧ Q (.int i) H) ∨ ∃ k, xs = [.bl k] ∧ Q (.int (if k then 1 else 0)) H
abbrev rListOf (K : PySem.W.Frag) : List V → Hp → VK → Prop := fun xs H Q => ∃ p ys, xs = [.ref p] ∧ (SqL K H p ys ∨ SqT K H p ys) ∧ ∀ l, H l = none → Q (.ref l) (upd H l (.lst ys))
abbrev rTupOf (K : PySem.W.Frag) : List V → Hp → VK → Prop := fun xs H Q => ∃ p ys, xs = [.ref p] ∧ ((SqL K H p ys ∧ ∀ l, H l = none → Q (.ref l) (upd H l (.tup ys))) ∨ (SqT K H p ys ∧ Q (.ref p) H))
abbrev tTruth (K : PySem.W.Frag) (ta : TE) : TT := fun σ H Q => ta σ H fun x H' => ∃ k, TruV K x H' k ∧ Q k H'
/-! ## heaps -/
/-- all but the object at p stays -/
def But (p : Addr) (H H' : Hp) : Prop := ∀ a o, a ≠ p → H a = some o → H' a = some o
theorem But.refl (p : Addr) (H : Hp) : But p H H := fun _ _ _ h => h
theorem But.trans {p : Addr} {H H1 H2 : Hp} (a : But p H H1) (b : But p H1 H2) : But p H H2 := fun c o n h => b c o n (a c o n h)
theorem But.of {p : Addr} {H H' : Hp} (e : Ex H H') : But p H H' := fun a o _ h => e a o h
theorem But.up {p : Addr} {H H' : Hp} (e : But p H H') (o : HO) : But p H (upd H' p o) := fun a u n h => by
  rw [upd_ne n]
  exact e a u n h
theorem But.new {p l : Addr} {H H' : Hp} (e : But p H H') {o : HO} (hl : H l = none) : But p H (upd H' l o) := fun a u n h => by
  rw [upd_ne (ne_of_none h hl)]
  exact e a u n h
/-- lists and tuples are as they were -/
structure Sq (K : PySem.W.Frag) (H H' : Hp) : Prop where
  l : ∀ a xs, SqL K H a xs → SqL K H' a xs
  t : ∀ a xs, SqT K H a xs → SqT K H' a xs
theorem Sq.ex {K : PySem.W.Frag} {H H' : Hp} (e : Ex H H') : Sq K H H' := ⟨fun _ _ h => Evl.ex_l e h, fun _ _ h => Evl.ex_t e h⟩
theorem rd_but {p : Addr} {H H' : Hp} {u v : HO} (e : But p H H') (hp : H p = some v) (n1 : v ≠ u) (n2 : ∀ o, v ≠ .frz o u) {a : Addr} (h : Rd H a u) : Rd H' a u := by
  rcases h with h | ⟨o, h⟩
  · exact .inl (e a _ (ne_of h hp n1.symm) h)
  · exact .inr ⟨o, e a _ (ne_of h hp (n2 o).symm) h⟩
theorem Sq.but {K : PySem.W.Frag} {p : Addr} {H H' : Hp} {v : HO} (e : But p H H') (hp : H p = some v) (n1 : ∀ xs, v ≠ .lst xs) (n2 : ∀ xs, v ≠ .tup xs) (n3 : ∀ o u, v ≠ .frz o u) : Sq K H H' := by
  refine ⟨fun a xs h => ?_, fun a xs h => ?_⟩
  · rcases h with h | h
    · exact .inl (rd_but e hp (n1 xs) (fun o => n3 o _) h)
    · exact .inr h
  · rcases h with h | h
    · exact .inl (rd_but e hp (n2 xs) (fun o => n3 o _) h)
    · exact .inr h
theorem Sq.dK {K : PySem.W.Frag} {p : Addr} {H H' : Hp} {kvs : List (Key × V)} (e : But p H H') (hp : H p = some (.dK kvs)) : Sq K H H' :=
  Sq.but e hp (fun _ z => by cases z) (fun _ z => by cases z) fun _ _ z => by cases z
theorem Sq.dT {K : PySem.W.Frag} {p : Addr} {H H' : Hp} {kvs : List (List Key × V)} (e : But p H H') (hp : H p = some (.dT kvs)) : Sq K H H' :=
  Sq.but e hp (fun _ z => by cases z) (fun _ z => by cases z) fun _ _ z => by cases z
/-! ## data -/
section
variable {K : PySem.W.Frag} {H H' : Hp}
theorem dp_sq (e : Sq K H H') {v : V} {d : PyData} (h : Dp K H v d) : Dp K H' v d :=
  Dp.rec (motive_1 := fun v d _ => Dp K H' v d) (motive_2 := fun vs ds _ => DpAll K H' vs ds) .non (fun b => .bl b) (fun i => .int i) (fun x => .str x) (fun h _ i => .lst (e.l _ _ h) i) (fun h _ i => .tup (e.t _ _ h) i) .nil (fun _ _ i j => .cons i j) h
theorem dpa_sq (e : Sq K H H') : ∀ {vs : List V} {ds : List PyData}, DpAll K H vs ds → DpAll K H' vs ds
  | _, _, .nil => .nil
  | _, _, .cons a b => .cons (dp_sq e a) (dpa_sq e b)
theorem dp_ex (e : Ex H H') {v : V} {d : PyData} (h : Dp K H v d) : Dp K H' v d := dp_sq (Sq.ex e) h
theorem dpa_ex (e : Ex H H') {vs : List V} {ds : List PyData} (h : DpAll K H vs ds) : DpAll K H' vs ds := dpa_sq (Sq.ex e) h
theorem dp_int {v : V} {i : Int} (h : Dp K H v (.int i)) : v = .int i := by cases h; rfl
theorem dp_str {v : V} {x : Str} (h : Dp K H v (.str x)) : v = .str x := by cases h; rfl
theorem dp_bl {v : V} {b : Bool} (h : Dp K H v (.bool b)) : v = .bl b := by cases h; rfl
theorem dp_non {v : V} (h : Dp K H v .none) : v = .non := by cases h; rfl
theorem dp_tup {v : V} {ds : List PyData} (h : Dp K H v (.tuple ds)) : ∃ a xs, v = .ref a ∧ SqT K H a xs ∧ DpAll K H xs ds := by
  cases h with
  | tup a b => exact ⟨_, _, rfl, a, b⟩
theorem dp_lst {v : V} {ds : List PyData} (h : Dp K H v (.list ds)) : ∃ a xs, v = .ref a ∧ SqL K H a xs ∧ DpAll K H xs ds := by
  cases h with
  | lst a b => exact ⟨_, _, rfl, a, b⟩
theorem dpa_len : ∀ {vs : List V} {ds : List PyData}, DpAll K H vs ds → vs.length = ds.length
  | _, _, .nil => rfl
  | _, _, .cons _ b => congrArg Nat.succ (dpa_len b)
theorem dpa_at : ∀ {vs : List V} {ds : List PyData} {i : Nat} {d : PyData}, DpAll K H vs ds → ds[i]? = some d → ∃ v, vs[i]? = some v ∧ Dp K H v d
  | _, _, 0, _, .cons a _, e => ⟨_, rfl, by cases e; exact a⟩
  | _, _, i + 1, _, .cons _ b, e => dpa_at (i := i) b e
theorem dpa_get : ∀ {vs : List V} {ds : List PyData} {i : Nat} {v : V}, DpAll K H vs ds → vs[i]? = some v → ∃ d, ds[i]? = some d ∧ Dp K H v d
  | _, _, 0, _, .cons a _, e => ⟨_, rfl, by cases e; exact a⟩
  | _, _, i + 1, _, .cons _ b, e => dpa_get (i := i) b e
theorem dpa_app : ∀ {vs ws : List V} {ds es : List PyData}, DpAll K H vs ds → DpAll K H ws es → DpAll K H (vs ++ ws) (ds ++ es)
  | _, _, _, _, .nil, h => h
  | _, _, _, _, .cons a b, h => .cons a (dpa_app b h)
theorem dpa_one {v : V} {d : PyData} (h : Dp K H v d) : DpAll K H [v] [d] := .cons h .nil
theorem dpa_ints : ∀ ns : List Int, DpAll K H (ns.map V.int) (ns.map PyData.int)
  | [] => .nil
  | i :: ns => .cons (.int i) (dpa_ints ns)
theorem dpa_ints_inv : ∀ {ns : List Int} {vs : List V}, DpAll K H vs (ns.map PyData.int) → vs = ns.map V.int
  | [], _, .nil => rfl
  | i :: ns, _, .cons a b => by
    rw [dp_int a, dpa_ints_inv b]
    rfl
theorem dpa_perm {vs ws : List V} {ds : List PyData} (h : DpAll K H vs ds) (p : ws.Perm vs) : ∃ es, es.Perm ds ∧ DpAll K H ws es := by
  have main : ∀ {vs ws : List V}, vs.Perm ws → ∀ {ds : List PyData}, DpAll K H vs ds → ∃ es, ds.Perm es ∧ DpAll K H ws es := by
    intro vs ws p
    induction p with
    | nil =>
      intro ds h
      cases h
      exact ⟨[], .nil, .nil⟩
    | cons x _ ih =>
      intro ds h
      cases h with
      | cons a b =>
        obtain ⟨es, q, r⟩ := ih b
        exact ⟨_ :: es, q.cons _, .cons a r⟩
    | swap x y l =>
      intro ds h
      cases h with
      | cons a b =>
        cases b with
        | cons a' b' => exact ⟨_, List.Perm.swap _ _ _, .cons a' (.cons a b')⟩
    | trans _ _ i1 i2 =>
      intro ds h
      obtain ⟨es, q, r⟩ := i1 h
      obtain ⟨fs, q', r'⟩ := i2 r
      exact ⟨fs, q.trans q', r'⟩
  obtain ⟨es, q, r⟩ := main p.symm h
  exact ⟨es, q.symm, r⟩
end
end K28

set_option Elab.async false
set_option linter.all false
set_option maxRecDepth 100000
set_option maxHeartbeats 4000000
namespace K28
open PySem PySem.Spec PyProof.Rows L2
open Evl (Ex)
/-! ## comprehensions, by one rule -/
/-- all but the objects at S stays -/
def Frm (S : Addr → Prop) (H H' : Hp) : Prop := ∀ a o, ¬ S a → H a = some o → H' a = some o
theorem Frm.refl (S : Addr → Prop) (H : Hp) : Frm S H H := fun _ _ _ h => h
theorem Frm.trans {S : Addr → Prop} {H H1 H2 : Hp} (a : Frm S H H1) (b : Frm S H1 H2) : Frm S H H2 := fun c o n h => b c o n (a c o n h)
theorem Frm.new {S : Addr → Prop} {H H' : Hp} {l : Addr} (e : Frm S H H') (hl : H l = none) (o : HO) : Frm S H (upd H' l o) := fun a u n h => by
  rw [upd_ne (ne_of_none h hl)]
  exact e a u n h
theorem Frm.free {S : Addr → Prop} {H H' : Hp} (e : Frm S H H') {p : Addr} (n : ¬ S p) (h : H' p = none) : H p = none := by
  cases q : H p with
  | none => rfl
  | some o =>
    rw [e p o n q] at h
    cases h
abbrev noS : Addr → Prop := fun _ => False
theorem Frm.of {S : Addr → Prop} {H H' : Hp} (e : Ex H H') : Frm S H H' := fun a o _ h => e a o h
theorem Frm.ex {H H' : Hp} (e : Frm noS H H') : Ex H H' := fun a o h => e a o id h
theorem Frm.but {p : Addr} {H H' : Hp} (e : Frm (· = p) H H') : But p H H' := fun a o n h => e a o n h
theorem But.frm {p : Addr} {H H' : Hp} (e : But p H H') : Frm (· = p) H H' := fun a o n h => e a o n h
section
variable {J : It} {n : Nat} {G : Hp → Prop} {Y : Nat → Hp → V → Hp → Prop}
/-- [e for x in ..], the new list at D: Pv by the turn, what is made so far, the heap -/
theorem lc_run {g : TG} {tt : TT} {te : TE} {vs : List Nat} {σ : L2.St} {H1 : Hp} {D : Addr} {Qd : Hp → Prop} (S : Addr → Prop) (hS : ∀ a, S a → H1 a ≠ none) (hD : H1 D = none) (w : Walk J n G Y) (hn : n ≤ 100000) (Pv : Nat → List V → Hp → Prop)
    (hG : ∀ i acc H', Frm S H1 H' → Pv i acc H' → G H') (h0 : Pv 0 [] (upd H1 D (.lst [])))
    (hst : ∀ i acc H' zs, Frm S H1 H' → Pv i acc H' → Pv i acc (upd H' D (.lst zs)))
    (hs : ∀ i x acc H' H'' (k : VK) (k0 : Hp → Prop), i < n → Frm S H1 H' → H' D = some (.lst acc) → Pv i acc H' → Y i H' x H'' →
      (∀ y H4, Frm S H' H4 → Pv (i + 1) (acc ++ [y]) H4 → k y H4) → (∀ H3, Frm S H' H3 → Pv (i + 1) acc H3 → k0 H3) →
      g x (wipe σ vs) H'' fun σ2 H2 => wipe σ2 vs = wipe σ vs ∧ tt σ2 H2 fun b H3 => if b = true then te σ2 H3 k else k0 H3)
    (hd : ∀ acc H', Frm S H1 H' → H' D = some (.lst acc) → Pv n acc H' → Qd H') :
    ∃ W : Nat → Nat → Hp → Prop, (∃ m, W 0 m (upd H1 D (.lst []))) ∧ ∀ i m H, W i m H →
      (J.stop i H ∧ Qd H) ∨ (J.go i H ∧ ∃ Nx : Hp → Prop, (∀ H', Nx H' → ∃ m', m' < m ∧ W (i + 1) m' H') ∧ ∀ x H', J.yld i H x H' → g x (wipe σ vs) H' fun σ2 H2 => wipe σ2 vs = wipe σ vs ∧ tt σ2 H2 fun b H3 =>
        if b = true then te σ2 H3 fun y H4 => ∃ acc, H4 D = some (.lst acc) ∧ acc.length < sizeLine ∧ Nx (upd H4 D (.lst (acc ++ [y]))) else Nx H3) := by
  have nS : ¬ S D := fun z => hS D z hD
  refine lc_it w (fun i H' => ∃ acc, acc.length ≤ i ∧ Frm S H1 H' ∧ H' D = some (.lst acc) ∧ Pv i acc H') ⟨[], Nat.le_refl _, (Frm.refl S H1).new hD _, upd_same, h0⟩ (fun i H' _ ⟨acc, _, e, _, p⟩ => hG i acc H' e p) ?_ ?_
  · intro i x H' H'' hi ⟨acc, hl, e, hl2, p⟩ y
    refine hs i x acc H' H'' _ _ hi e hl2 p y (fun v H4 e4 p4 => ?_) (fun H3 e3 p3 => ?_)
    · have h4 := e4 D _ nS hl2
      refine ⟨acc, h4, Evl.sz_lt (by omega), acc ++ [v], ?_, (e.trans e4).new hD _, upd_same, ?_⟩
      · rw [List.length_append, List.length_singleton]
        omega
      · exact hst (i + 1) _ H4 _ (e.trans e4) p4
    · exact ⟨acc, Nat.le_succ_of_le hl, e.trans e3, e3 D _ nS hl2, p3⟩
  · exact fun H' ⟨acc, _, e, h, p⟩ => hd acc H' e h p
end
end K28

set_option Elab.async false
set_option linter.all false
set_option maxRecDepth 100000
set_option maxHeartbeats 4000000
namespace K28
open PySem PySem.Spec PyProof.Rows L2
open Evl (Ex)
open PySem.W (maxOf HoldAll max_list_datum_default count_tuple_datum holds_int)
/-! ## rules of my own -/
theorem room65 {k : Nat} {A : Around} (r : Room k A) : A.units + 65 < cLine := by
  have h := r.un
  omega
section
variable {X : Cx}
/-- x in t, x not in t: a tuple of data -/
def rInT (K : PySem.W.Frag) : R2 := fun x y H Q => ∃ d ds, Dp K H x d ∧ Dp K H y (.tuple ds) ∧ SeqAt.shaped d = true ∧ SeqAt.shaped (.tuple ds) = true ∧ Q (.bl (ds.any (PyData.eqv · d))) H
theorem op_inT (hu : X.A.units + 65 < cLine) : OpR X (compareOp .In) (rInT X.K) := fun pins s σ H x y v u Q I rx ry ⟨d, ds, hx, hy, sx, sy, q⟩ => by
  have ⟨_, r1⟩ := Dp.reads I d x v hx rx
  have ⟨_, r2⟩ := Dp.reads I (.tuple ds) y u hy ry
  have big : X.A.units + 1 + min (PyData.depthAll ds) d.depth < cLine := by
    have := SeqAt.depth_of_shaped sx
    omega
  exact SeqAt.in_tuple_reads r2 r1 (SeqAt.canLay_of_shaped sy) (SeqAt.canLay_of_shaped sx) big ⟨.bl _, H, I, rfl, q⟩
/-- l.extend(t), t a tuple -/
theorem ext_meets (l b : Addr) (xs ys : Array Value) (n k : Nat) (dd : Option Addr) (sl : Array (Option Value)) (h0 : ¬(!xs.isEmpty && Builtin.List.listTooLong (xs.size + ys.size)) = true) (h1 : xs.size ≤ sizeLine) (h2 : xs.size + ys.size ≤ sizeLine + 1) :
    Meets (Builtin.«list.extend» ⟨[.ref l, .ref b], []⟩) (fun _ R s => s.heap.get? l = some { cls := .type "list", dict := none, data := .seq xs n, slots := #[] } ∧
      s.heap.get? b = some { cls := .type "tuple", dict := dd, data := .seq ys k, slots := sl } ∧ R (.ok (.ret Value.none)) { s with heap := s.heap.update l (Obj.mapSeq fun z => z ++ ys), toks := s.toks }) :=
  .of_wp fun prog w A R s h => by
    obtain ⟨hp, gs, dr, tk, os⟩ := s
    obtain ⟨al, ab, fin⟩ := h
    have e1 := AutoSeq1.idx_int
    have e2 := AutoSeq1.sub_tuple_tuple
    have e3 := AutoSeq1.sub_list_list
    have e4 := AutoSeq1.sub_tuple_list
    have e5 := AutoSeq1.sub_list_tuple
    have e6 : (xs ++ ys).size ≤ sizeLine + 1 := by
      rw [Array.size_append]
      exact h2
    wp_walk using (wpAny_updateSeq al rfl (hz := h1) (_hz' := e6)), wpAny_loadPart' al, wpAny_loadPart' ab
    exact ⟨_, rfl, fin⟩
def rExtendT (K : PySem.W.Frag) : V → List V → Hp → VK → Prop := fun x vs H Q => ∃ l b xs zs, x = .ref l ∧ vs = [.ref b] ∧ H l = some (.lst xs) ∧ SqT K H b zs ∧ xs.length + zs.length ≤ sizeLine ∧ Q .non (upd H l (.lst (xs ++ zs)))
theorem mt_extendT : MtM X "list.extend" (rExtendT X.K) := fun pins s σ H x vs v us Q I rx rv h => by
  obtain ⟨l, b, xs, zs, rfl, rfl, hl, hb, hz, q⟩ := h
  cases rx
  obtain ⟨u, rfl, ru⟩ := rv.one
  cases ru
  obtain ⟨_, its, n, r, len1, e⟩ := I.lstM hl
  obtain ⟨js, r2, ⟨⟨oc, dd, dt, sl⟩, e2, hc, k, hd⟩, _⟩ := I.tuple hb
  simp only at hc hd
  subst hc hd
  have len2 := r2.length
  have fits : its.toArray.size + js.toArray.size ≤ sizeLine := by
    rw [List.size_toArray, List.size_toArray, ← len1, ← len2]
    exact hz
  have short : ¬(!its.toArray.isEmpty && Builtin.List.listTooLong (its.toArray.size + js.toArray.size)) = true := by
    rw [notLongL fits, Bool.and_false]
    simp
  refine call_meets F.slot_list_extend ⟨_, e, rfl⟩ F.entry_list_extend (F.args_list_extend_2 _ _) (ext_meets l b its.toArray js.toArray n k dd sl short (by omega) (by omega)) ⟨e, e2, ?_⟩
  refine ⟨.non, _, I.lset (its' := its ++ js) hl e (by simp) (r.append r2) ?_, rfl, q⟩
  rw [List.length_append]
  exact hz
/-- max(l, default=d), ints -/
def maxOr (d : Int) : List Int → Int
  | [] => d
  | x :: xs => maxOf x xs
def rMaxD (K : PySem.W.Frag) : List V → List V → Hp → VK → Prop := fun vs zs H Q => ∃ (a : Addr) (ns : List Int) (d : Int), vs = [.ref a] ∧ zs = [.int d] ∧ SqL K H a (ns.map V.int) ∧ Q (.int (maxOr d ns)) H
theorem ck_maxD (hc : X.calm = true) (hu : X.A.units + 65 < cLine) : CallRK X (.builtin "max") ["default"] (rMaxD X.K) := fun pins s σ H vs zs us ws Q I r r2 h => by
  obtain ⟨a, ns, d, rfl, rfl, hs, q⟩ := h
  obtain ⟨u, rfl, ru⟩ := vals1 r
  obtain ⟨u2, rfl, t, rfl⟩ := vals1 r2
  cases ru
  obtain ⟨its, rv, hl, _⟩ := I.list hs
  have hold : HoldAll s.heap its.toArray.toList ns := HoldAll.of_ints rv.ints
  refine max_list_datum_default (I.ok.hd hc) hl.isList hold (by show X.A.units + 1 + 0 < cLine; omega) (fun e h' tk k => ?_) fun y ys i v h' tk e hv hh k => ?_
  · subst e
    exact ⟨.int d, H, I.kept k, ⟨t, rfl⟩, q⟩
  · subst e
    obtain ⟨as, rd⟩ := hh
    have eu : ∃ t, v = .int (maxOf y ys) t := by
      cases rd
      exact ⟨_, rfl⟩
    exact ⟨.int _, H, I.kept k, eu, q⟩
theorem pe_maxD {p pos kp : Pos} {a d : Expr} {ta td : TE} (hc : X.calm = true) (hu : X.A.units + 65 < cLine) (hg : Gl X "max") (hm : X.mg "max" = none) (ha : PE X a ta) (hd : PE X d td)
    (hs : starEach [a] X.env = (false, eval a X.env) :: starEach [] X.env := by rfl) (he : backTo pos (starEach [a] X.env) = (false, eval a X.env) :: backTo pos (starEach [] X.env) := by rfl) (hpl : (backTo pos (starEach [a] X.env)).any (·.1) = false := by rfl) :
    PE X (.Call (.Name "max" p) [a] [⟨some "default", d, kp⟩] pos) (tCKw (rMaxD X.K) (tCons ta tNil) (tCons td tNil)) :=
  pe_callBK (ck_maxD hc hu) hg hm (by decide +kernel) (pa_cons ha pa_nil hs) (pk_cons hd pk_nil) (by decide) (by decide) he hpl
/-- t.count(i), ints -/
def rCountT (K : PySem.W.Frag) : V → List V → Hp → VK → Prop := fun x xs H Q => ∃ (p : Addr) (ns : List Int) (k : Int), x = .ref p ∧ xs = [.int k] ∧ SqT K H p (ns.map V.int) ∧ Q (.int (ns.count k : Nat)) H
theorem mt_countT (hu : X.A.units + 65 < cLine) : MtR X "tuple.count" (rCountT X.K) := fun pins s σ H x xs v us Q I rx rxs h => by
  obtain ⟨p, ns, k, rfl, rfl, hs, q⟩ := h
  cases rx
  obtain ⟨u, rfl, t, rfl⟩ := rxs.one
  obtain ⟨its, rv, hl, _⟩ := I.tuple hs
  have hold : HoldAll s.heap its.toArray.toList ns := HoldAll.of_ints rv.ints
  refine count_tuple_datum (x := k) hl hold (holds_int k t) (by show X.A.units + 1 + 0 < cLine; omega) ⟨.int (ns.count k : Nat), H, I.tok _, ⟨s.toks, ?_⟩, q⟩
  have e : (ns.countP fun y => decide (y = k)) = ns.count k := by
    rw [List.count_eq_countP]
    exact List.countP_congr fun z _ => by simp
  rw [e]
/-- LeadError.__init__(self, ..): ValueError's own -/
theorem pe_lead {C : Addr} {x : Str} {e : Expr} {es : List Expr} {ta : TA} {p1 p2 pos : Pos} {pl : Sem Bool} (hg : Gl X x) (hm : X.mg x = some (.ref C)) (rd : PySem.W.readsIn X.K C (.type "type") = true)
    (ga : PySem.W.specialIn X.K (.ref C) "__getattribute__" = some (some (.builtin "type.__getattribute__"))) (fnd : PySem.W.findCls X.K (.ref C) (.type "type") "__init__" = some (.val (.builtin "ValueError.__init__"))) (ha : PA X (e :: es) ta)
    (hdb : (x == ("__debug__" : Str)) = false := by decide)
    (hc : eval (.Call (.Attribute (.Name x p1) "__init__" p2) (e :: es) [] pos) X.env = (do
      let ov ← eval (.Name x p1) X.env
      standAt p2.atName
      let q ← holding [ov] (getMethod ov "__init__" pl)
      callWith pos q.1 q.2 (backTo pos (starEach (e :: es) X.env)) (backToKw pos (keywordEach [] X.env))) := by rfl)
    (he : starEach (e :: es) X.env = (false, eval e X.env) :: starEach es X.env := by rfl) (hpl : (backTo pos (starEach es X.env)).any (·.1) = false := by rfl) :
    PE X (.Call (.Attribute (.Name x p1) "__init__" p2) (e :: es) [] pos) (tVeI X.K ta) := ⟨fun pins s σ H Q I h => by
  refine PySem.W.methodCall_KW (ld_glob I hg hm ?_ hdb) hc
  refine PySem.W.method_cls I.kIn ga (PySem.W.cls_value I.kIn rd fnd (by decide +kernel) ?_)
  refine PyProof.Rows.callWith_method1 (thn (ha.run pos pins _ σ H _ (I.tok _) h) fun us s1 hh => ?_) he hpl
  obtain ⟨vs, H1, I1, r1, a, D, ws, ev, hl, T, ea, q⟩ := hh
  subst ev
  cases r1 with
  | @cons _ u0 _ ur ra rw' =>
    cases (show u0 = Value.ref a from ra)
    have few : ur.length ≤ sizeLine := by
      have z := Paired.length rw'
      have z2 := sizeLine_eq
      omega
    exact oinit_ok T I1 ea few fun s' J => ⟨.non, H1, J, rfl, q⟩⟩
end
end K28

set_option Elab.async false
set_option linter.all false
set_option maxRecDepth 100000
set_option maxHeartbeats 4000000
namespace K28
open PySem PySem.Spec PyProof.Rows L2
/-! ## enumerate over a tuple too -/
theorem enum_meets {v : Value} {o : Obj} {G : Heap → Prop} (B : Begins v o G) : Meets (Builtin.«enumerate.__new__» ⟨[.type "enumerate", v], []⟩) (fun _ R s => G s.heap ∧
    R (.ok (.ret (.ref (s.heap.push o).objs.size))) { s with heap := (s.heap.push o).push { cls := .type "enumerate", data := .fields #[.none, .bool false, .ref s.heap.objs.size, rawInt 0, .none, .none] } }) :=
  .of_wp fun prog w A R s hh => by
    obtain ⟨hp, gs, dr, tk, os⟩ := s
    obtain ⟨a, fin⟩ := hh
    have z := sub_enumerate
    have go : ∀ {A' : Around} {E : Value → Shared → Prop} {Q : Value → Shared → Prop}, Q (.ref hp.objs.size) ⟨hp.push o, gs, dr, tk, os⟩ → wpAny (model prog w) A' (pyIter v) Q E ⟨hp, gs, dr, tk, os⟩ := fun q => B.iter _ _ _ _ _ _ a q
    wp_walk using go
    refine wpAny_stack_any fun st => wpAny_pure ?_
    split
    · rename_i c _ _ _ _ _
      cases (c == Value.type "enumerate") <;> (wp_walk using go; exact ⟨_, rfl, fin⟩)
    · (wp_walk using go; exact ⟨_, rfl, fin⟩)
theorem call_enum {prog : Program} {w : World} {A : Around} {E : Value → Shared → Prop} {s : Shared} {v : Value} {o : Obj} {G : Heap → Prop} {Q : Value → Shared → Prop} (B : Begins v o G) (hG : G s.heap)
    (fin : ∀ h', IsEnum h' (s.heap.objs.size + 1) s.heap.objs.size 0 .none → h'.get? s.heap.objs.size = some o → (∀ b u, s.heap.get? b = some u → h'.get? b = some u) → Q (.ref (s.heap.objs.size + 1)) { s with heap := h' }) :
    wpAny (model prog w) A (call (.type "enumerate") [v]) Q E s := by
  refine callType_new F.called_enumerate (by decide) (F.typeCall_enumerate_1 _) (F.newCall_enumerate_1 _) (fun ob => F.args_object_init_2 ob _) F.entry_enumerate_new (enum_meets B) ⟨hG, ?_⟩
  have sz : (s.heap.push o).objs.size = s.heap.objs.size + 1 := Heap.size_push ..
  have top := Heap.get?_push_size (s.heap.push o) (o := { cls := .type "enumerate", data := .fields #[.none, .bool false, .ref s.heap.objs.size, rawInt 0, .none, .none] }) rfl
  rw [sz] at top
  show _ ∧ _
  rw [sz]
  exact ⟨⟨_, top, rfl⟩, fin _ top (Heap.get?_push_of_some _ (Heap.get?_push_size _ B.free)) fun b u x => Heap.get?_push_of_some _ (Heap.get?_push_of_some _ x)⟩
/-- the tuple at a, each item in a new pair -/
def Iet (K : PySem.W.Frag) (a : Addr) : It where
  go := fun i H => ∃ (xs : List V) (x : V), SqT K H a xs ∧ xs[i]? = some x
  yld := fun i H v H' => ∃ T x, v = .ref T ∧ H T = none ∧ H' = upd H T (.tup [.int (i : Nat), x]) ∧ ∀ xs, SqT K H a xs → xs[i]? = some x
  stop := fun i H => ∃ xs : List V, SqT K H a xs ∧ xs.length ≤ i
theorem turn_enumT {P : Program} {w : World} {K : PySem.W.Frag} {ts : List Expr} {kk : Nat} {tp : Pos} (a e it : Addr) (hat : a ≠ it) (hae : a ≠ e) : Turn P w K (.Tuple ts kk tp) (Iet K a) [e, it] e (fun i h => (∃ old, IsEnum h e it ((i : Nat) : Int) old) ∧ h.IsTupleIter it a i ∧ e ≠ it) where
  mem := List.mem_cons_self
  obj := fun i h st b hb => by
    obtain ⟨⟨old, z1⟩, ⟨o, z2, _, z3⟩, _⟩ := st
    rcases List.mem_cons.mp hb with q | q
    · exact ⟨_, by rw [q]; exact z1, fun v y => by cases y⟩
    · exact ⟨o, by rw [List.mem_singleton.mp q]; exact z2, fun v y => by rw [z3] at y; cases y⟩
  keep := fun i h h' st k => by
    obtain ⟨⟨old, z1⟩, z2, z3⟩ := st
    exact ⟨⟨old, k e List.mem_cons_self _ z1⟩, z2.at fun o q => k it (List.mem_cons_of_mem _ List.mem_cons_self) o q, z3⟩
  item := by
    intro X e1 e2 e3 hc i pins s σ H E I hf st go
    subst e1 e2 e3
    obtain ⟨⟨old, z1⟩, z2, z3⟩ := st
    obtain ⟨xs, x, hq, hx⟩ := go
    obtain ⟨its, rv, tp', _⟩ := I.tuple hq
    obtain ⟨u, hu, ru⟩ := rv.get hx
    have le : e < s.heap.objs.size := Heap.lt_size z1
    have lit : it < s.heap.objs.size := by
      obtain ⟨_, q, _⟩ := z2
      exact Heap.lt_size q
    have small : i < its.toArray.size := by
      rw [List.size_toArray]
      exact (List.getElem?_eq_some_iff.mp hu).1
    refine wpAny_pyNext_enum_itemD (Draws.tuple (A := X.A.in1) (I.ok.hd hc) it a hat its.toArray) z1 ⟨z2, tp'⟩ small z3 (fun m => ?_) fun y h' tk hy out nx hT _ kp => ?_
    · rcases List.mem_cons.mp m with q | q
      · exact z3 q
      · exact hae (List.mem_singleton.mp q).symm
    have ey : y = u := by
      have q1 : its[i]? = some y := by simpa using hy
      exact Option.some.inj (q1.symm.trans hu)
    subst ey
    refine ⟨_, rfl, wpAny_letOwnedTupleGo_enum (s := { s with heap := h', toks := tk + 1 }) out fun h2 z4 sb => ?_⟩
    have at2 : h2.get? s.heap.objs.size = some { cls := .type "tuple", data := .seq #[.int i tk, y] } := (sb.2 _ (Nat.ne_of_gt le)).trans hT
    have ok2 : ObjOk X.prog X.w (upd H s.heap.objs.size (.tup [.int (i : Nat), x])) h2 s.heap.objs.size (.tup [.int (i : Nat), x]) := ⟨by show 2 ≤ sizeLine; decide, [.int i tk, y], .cons ⟨_, rfl⟩ (.cons ru .nil), ⟨_, at2, rfl, _, rfl⟩⟩
    have I2 : Inv X pins σ (upd H s.heap.objs.size (.tup [.int (i : Nat), x])) { s with heap := h2, toks := tk + 1 } := by
      refine I.turnedNew (ch := [e, it]) (fun b ob hb q => ?_) hf (Nat.le_refl _) ok2
      have n1 : b ≠ e := fun z => hb (by rw [z]; exact List.mem_cons_self)
      have n2 : b ≠ it := fun z => hb (by rw [z]; exact List.mem_cons_of_mem _ List.mem_cons_self)
      exact (sb.2 b n1).trans (kp b ob n1 n2 q)
    refine ⟨.ref s.heap.objs.size, _, I2, rfl, ⟨_, x, rfl, I.hok.fresh (Nat.le_refl _), rfl, fun zs hz => by rw [I.tuple_inj hz hq]; exact hx⟩, ⟨⟨y, ?_⟩, nx.1.at fun o q => (sb.2 it (Ne.symm z3)).trans q, z3⟩, fun b hb => ?_⟩
    · have q : ((i + 1 : Nat) : Int) = (i : Int) + 1 := by omega
      rw [q]
      exact z4
    · have lb : b < s.heap.objs.size := by
        rcases List.mem_cons.mp hb with q | q
        · rw [q]
          exact le
        · rw [List.mem_singleton.mp q]
          exact lit
      rw [upd_ne (Nat.ne_of_lt lb)]
      exact (hf b hb).1
  done := by
    intro X e1 e2 e3 hc i pins s σ H E I hf st go
    subst e1 e2 e3
    obtain ⟨⟨old, z1⟩, z2, z3⟩ := st
    obtain ⟨xs, hq, hx⟩ := go
    obtain ⟨its, rv, tp', _⟩ := I.tuple hq
    obtain ⟨f0, f1, f2, f3, f4, f5⟩ := hf it (List.mem_cons_of_mem _ List.mem_cons_self)
    have len := rv.length
    unfold pyNext
    have ty : s.TypeIs (.ref e) "enumerate" := ⟨_, z1, rfl⟩
    refine wpAny_bind (wpAny_attempt (wpAny_callSpecial?_slot (name := Str.ofString "__next__") ty F.slot_enumerate_next (wpAny_call_entry F.slot_enumerate_next ty F.entry_enumerate_next ?_ (F.args_enumerate_next_1 _))))
    show wpAny _ _ (field (.ref e) 2 >>= _) _ _ _
    refine wpAny_bind (wpAny_field z1 rfl (x := .ref it) rfl ?_)
    refine wpAny_bind (wpAny_nextOf_tuple_end (A := X.A.in1) (I.ok.hd hc) z2 tp' (by simp; omega) fun h' x k y => ?_)
    obtain ⟨o, ho, hcl⟩ := y
    exact wpAny_bind (wpAny_isInstance (T := "StopIteration") (b := true) ⟨o, ho, hcl⟩ isSubtype_stop (wpAny_pure ⟨rfl, I.turned (t' := s.toks) (fun b o hb q => k b o hb q) f0 f1 f3 f4 f5⟩))
  self := fun A i s Q E st h => by
    obtain ⟨⟨_, z⟩, _⟩ := st
    exact wpAny_pyIter_enum z h
/-- a list or a tuple of these -/
def Sq2 (K : PySem.W.Frag) (H : Hp) (a : Addr) (xs : List V) : Prop := SqL K H a xs ∨ SqT K H a xs
theorem Sq2.ex {K : PySem.W.Frag} {H H' : Hp} {a : Addr} {xs : List V} (e : Evl.Ex H H') (h : Sq2 K H a xs) : Sq2 K H' a xs := h.elim (fun q => .inl (Evl.ex_l e q)) fun q => .inr (Evl.ex_t e q)
def Stay (K : PySem.W.Frag) (a : Addr) (xs : List V) (H H' : Hp) : Prop := (SqL K H a xs → SqL K H' a xs) ∧ (SqT K H a xs → SqT K H' a xs)
theorem Stay.ex {K : PySem.W.Frag} {H H' : Hp} {a : Addr} {xs : List V} (e : Evl.Ex H H') : Stay K a xs H H' := ⟨Evl.ex_l e, Evl.ex_t e⟩
theorem Stay.sq {K : PySem.W.Frag} {H H' : Hp} {a : Addr} {xs : List V} (e : Sq K H H') : Stay K a xs H H' := ⟨e.l a xs, e.t a xs⟩
abbrev EnumY (xs : List V) : Nat → Hp → V → Hp → Prop := YPair (fun i => some (.int (i : Nat))) (fun i => xs[i]?)
def iEnumS (K : PySem.W.Frag) (ta : TA) : TI := fun σ H R => ta σ H fun vs H1 => ∃ a xs, vs = [.ref a] ∧ Sq2 K H1 a xs ∧ ∀ J G, Walk J xs.length G (EnumY xs) → (∀ H2, Stay K a xs H1 H2 → G H2) → R J H1
theorem walk_enumT {K : PySem.W.Frag} {a : Addr} {xs : List V} : Walk (Iet K a) xs.length (fun H => SqT K H a xs) (YPair (fun i => some (.int (i : Nat))) (fun i => xs[i]?)) where
  goes := fun i H hi q => ⟨xs, xs[i], q, by simp [hi]⟩
  stops := fun H q => ⟨xs, q, Nat.le_refl _⟩
  yields := fun i H v H' _ q ⟨T, x, a1, a2, a3, a4⟩ => ⟨T, .int (i : Nat), x, a1, a2, a3, rfl, a4 xs q⟩
theorem pi_enumS {X : Cx} {e : Expr} {ta : TA} {p pos tp : Pos} {ts : List Expr} {kk : Nat} (hg : Gl X "enumerate") (hm : X.mg "enumerate" = none) (ha : PA X [e] ta) (hs : starEach [e] X.env = [(false, eval e X.env)] := by rfl) :
    PI X (.Tuple ts kk tp) (.Call (.Name "enumerate" p) [e] [] pos) (iEnumS X.K ta) := ⟨fun pins s σ H R I h => by
  refine Call_ (ld_blt I hg hm boot_enumerate (PyProof.Rows.callWith_type1 (thn (ha.run pos pins s σ H _ I h) fun us s1 hh => ?_) hs rfl))
  obtain ⟨vs, H1, I1, r1, a, xs, ex, hq2, q⟩ := hh
  subst ex
  obtain ⟨u, rfl, ru⟩ := vals1 r1
  cases ru
  have fp : ∀ b ∈ [s1.heap.objs.size + 1, s1.heap.objs.size], FpOk X pins H1 b := fun b hb => by
    have le : s1.heap.objs.size ≤ b := by
      rcases List.mem_cons.mp hb with z | z
      · omega
      · rw [List.mem_singleton.mp z]
        exact Nat.le_refl _
    exact I1.fpOk le (I1.hok.fresh le)
  rcases hq2 with hq | hq
  · obtain ⟨its, rv, pl, _⟩ := I1.list hq
    refine call_enumerate_list pl.isList fun h' z1 z2 _ kp => wpAny_pyIter_enum z1 ?_
    exact ⟨_, [s1.heap.objs.size + 1, s1.heap.objs.size], _, _, H1, rfl, I1.kept (t' := s1.toks) kp, turn_enum a _ _, ⟨⟨.none, z1⟩, z2, Nat.succ_ne_self _⟩, fp, q _ _ walk_enum fun H2 e => e.1 hq⟩
  · obtain ⟨its, rv, tp', _⟩ := I1.tuple hq
    have la : a < s1.heap.objs.size := by
      obtain ⟨o, z, _⟩ := tp'
      exact Heap.lt_size z
    refine call_enum (begins_tuple a its.toArray) tp' fun h' z1 z2 kp => wpAny_pyIter_enum z1 ?_
    exact ⟨_, [s1.heap.objs.size + 1, s1.heap.objs.size], _, _, H1, rfl, I1.kept (t' := s1.toks) kp, turn_enumT a _ _ (Nat.ne_of_lt la) (Nat.ne_of_lt (Nat.lt_succ_of_lt la)), ⟨⟨.none, z1⟩, ⟨_, z2, rfl, rfl⟩, Nat.succ_ne_self _⟩, fp, q _ _ walk_enumT fun H2 e => e.2 hq⟩⟩
end K28

set_option Elab.async false
set_option linter.all false
set_option maxRecDepth 100000
set_option maxHeartbeats 4000000
namespace K28
open PySem PySem.Spec PyProof.Rows L2
open Evl (Ex)

/-! ## what stands at a value: an int, a row -/
section
variable {K : PySem.W.Frag} {H H' : Hp}
inductive IsI (K : PySem.W.Frag) (H : Hp) : V → Bool → Prop
  | int (i : Int) : IsI K H (.int i) true
  | bl (b : Bool) : IsI K H (.bl b) false
  | non : IsI K H .non false
  | str (x : Str) : IsI K H (.str x) false
  | tup {a : Addr} {xs : List V} (h : SqT K H a xs) : IsI K H (.ref a) false
inductive IsR (K : PySem.W.Frag) (H : Hp) : V → Bool → Prop
  | int (i : Int) : IsR K H (.int i) false
  | str (x : Str) : IsR K H (.str x) false
  | tup {a : Addr} {xs : List V} (h : SqT K H a xs) : IsR K H (.ref a) true
  | lst {a : Addr} {xs : List V} (h : SqL K H a xs) : IsR K H (.ref a) true
theorem tyx_t {a : Addr} {xs : List V} (h : SqT K H a xs) : TyX K H (.ref a) (.type "tuple") := by
  rcases h with (h | ⟨o, h⟩) | ⟨o, its, n, h, c, _⟩
  · exact .base (.tup h)
  · exact .fTuple h
  · exact .kTuple h c
theorem tyx_l {a : Addr} {xs : List V} (h : SqL K H a xs) : TyX K H (.ref a) (.type "list") := by
  rcases h with (h | ⟨o, h⟩) | ⟨o, its, n, h, c, _⟩
  · exact .base (.lst h)
  · exact .base (.frz h)
  · exact .kList h c
theorem IsI.ty {v : V} {b : Bool} (h : IsI K H v b) : ∃ t b1 b2, TyX K H v (.type t) ∧ kitB t "int" = some b1 ∧ kitB t "bool" = some b2 ∧ (b1 && !b2) = b := by
  cases h with
  | int i => exact ⟨"int", true, false, .base (.int i), by decide +kernel, by decide +kernel, rfl⟩
  | bl b => exact ⟨"bool", true, true, .base (.bl b), by decide +kernel, by decide +kernel, rfl⟩
  | non => exact ⟨"NoneType", false, false, .base .non, by decide +kernel, by decide +kernel, rfl⟩
  | str x => exact ⟨"str", false, false, .base (.str x), by decide +kernel, by decide +kernel, rfl⟩
  | tup h => exact ⟨"tuple", false, false, tyx_t h, by decide +kernel, by decide +kernel, rfl⟩
theorem IsR.ty {v : V} {b : Bool} (h : IsR K H v b) : ∃ t, TyX K H v (.type t) ∧ PySem.W.kitAny K (.type t) [.type "tuple", .type "list"] = some b := by
  cases h with
  | int i => exact ⟨"int", .base (.int i), kitAny_cons (b := false) (kit_ty (by decide +kernel)) (fun _ => kitAny_cons (b := false) (kit_ty (by decide +kernel)) (fun _ => kitAny_nil) (fun z => nomatch z)) (fun z => nomatch z)⟩
  | str i => exact ⟨"str", .base (.str i), kitAny_cons (b := false) (kit_ty (by decide +kernel)) (fun _ => kitAny_cons (b := false) (kit_ty (by decide +kernel)) (fun _ => kitAny_nil) (fun z => nomatch z)) (fun z => nomatch z)⟩
  | tup h => exact ⟨"tuple", tyx_t h, kitAny_cons (b := true) (kit_ty (by decide +kernel)) (fun z => nomatch z) (fun _ => rfl)⟩
  | lst h => exact ⟨"list", tyx_l h, kitAny_cons (b := false) (kit_ty (by decide +kernel)) (fun _ => kitAny_cons (b := true) (kit_ty (by decide +kernel)) (fun z => nomatch z) (fun _ => rfl)) (fun z => nomatch z)⟩
theorem IsR.ex {v : V} {b : Bool} (e : Ex H H') (h : IsR K H v b) : IsR K H' v b := by
  cases h with
  | int i => exact .int i
  | str i => exact .str i
  | tup h => exact .tup (Evl.ex_t e h)
  | lst h => exact .lst (Evl.ex_l e h)
end
def sp_is_int (w : World) (K : PySem.W.Frag) : Sp := fun vs H Q _ => ∃ v b, vs = [v] ∧ IsI K H v b ∧ Q (.bl b) H
def sp_is_row (w : World) (K : PySem.W.Frag) : Sp := fun vs H Q _ => ∃ v b, vs = [v] ∧ IsR K H v b ∧ ∀ H', Ex H H' → Q (.bl b) H'
def N_is_int : List Str := ["value"]
theorem sc_is_int : FnScope N_is_int ["value"] (defScope s_is_int) := ⟨rfl, rfl, rfl, by decide +kernel, rfl, by decide +kernel, by decide +kernel⟩
/-- names: 0 value -/
def t_is_int (P : Program) (w : World) (K : PySem.W.Frag) : TS :=
    (tRet (tAndV (tCB (rIsi K) (tCons (tVar 0) (tCons (tC (.ty "int")) tNil))) (tNotV (tCB (rIsi K) (tCons (tVar 0) (tCons (tC (.ty "bool")) tNil))))))

def N_is_row : List Str := ["value"]
theorem sc_is_row : FnScope N_is_row ["value"] (defScope s_is_row) := ⟨rfl, rfl, rfl, by decide +kernel, rfl, by decide +kernel, by decide +kernel⟩
/-- names: 0 value -/
def t_is_row (P : Program) (w : World) (K : PySem.W.Frag) : TS :=
    (tRet (tCB (rIsiT K) (tCons (tVar 0) (tCons (tTup (tCons (tC (.ty "tuple")) (tCons (tC (.ty "list")) tNil))) tNil))))

section
variable {P : Program} {w : World} {K : PySem.W.Frag} {mg : Str → Option Value} (E0 : Ctx w K mg)
include E0
theorem rd_is_int (vs : List V) (H : Hp) (Q : VK) (E : XK) (h : sp_is_int w K vs H Q E) : vs.length = 1 ∧ t_is_int P w K { nx := fun _ H' => Q .non H', rt := Q } (start N_is_int vs) H := by
  obtain ⟨v, b, rfl, hi, q⟩ := h
  obtain ⟨t, b1, b2, ty, k1, k2, e⟩ := hi.ty
  refine ⟨rfl, v, rfl, v, .ty "int", _, _, b1, rfl, .ty _, ty, kit_ty k1, b1, rfl, ?_⟩
  cases b1 with
  | true =>
    refine ⟨v, rfl, v, .ty "bool", _, _, b2, rfl, .ty _, ty, kit_ty k2, b2, rfl, ?_⟩
    have e2 : (!b2) = b := by simpa using e
    rw [e2]
    exact q
  | false =>
    have e2 : false = b := by simpa using e
    subst e2
    exact q
theorem rd_is_row (vs : List V) (H : Hp) (Q : VK) (E : XK) (h : sp_is_row w K vs H Q E) : vs.length = 1 ∧ t_is_row P w K { nx := fun _ H' => Q .non H', rt := Q } (start N_is_row vs) H := by
  obtain ⟨v, b, rfl, hi, q⟩ := h
  refine ⟨rfl, v, rfl, (by show 2 ≤ sizeLine; decide), fun p hp => ?_⟩
  obtain ⟨t, ty, k⟩ := (hi.ex (Ex.new hp)).ty
  exact ⟨v, p, _, _, _, b, rfl, upd_same, .cons (.ty "tuple") (.cons (.ty "list") .nil), ty, k, q _ (Ex.new hp)⟩
end
theorem ok_is_int {P : Program} {w : World} {K : PySem.W.Frag} {mg : Str → Option Value} {base : Heap} (E : Ctx w K mg) : DefOk P w K mg base "is_int" [("value" : Str)] 1 (sp_is_int w K) := by
  obtain ⟨fd, F⟩ := E.D_is_int
  exact ⟨_, fd, fn_mk (t := t_is_int P w K) F sc_is_int (rd_is_int E) (fun cdv A outer s H E0 hr => (pss_one (ps_ret (pe_and (pe_callB call_isi (by rfl) E.f_isinstance (by decide +kernel) (pa_cons (pv 0) (pa_cons (pe_bltn (v := .ty "int") (by rfl) E.f_int (by decide +kernel) rfl) pa_nil))) (pe_one (pe_not (pe_callB call_isi (by rfl) E.f_isinstance (by decide +kernel) (pa_cons (pv 0) (pa_cons (pe_bltn (v := .ty "bool") (by rfl) E.f_bool (by decide +kernel) rfl) pa_nil))))))))), (FunD.bindsN F (fun _ _ _ _ _ _ us hl => match us, hl with | [_], _ => rfl)), E.g_is_int, F.kp⟩
theorem ok_is_row {P : Program} {w : World} {K : PySem.W.Frag} {mg : Str → Option Value} {base : Heap} (E : Ctx w K mg) : DefOk P w K mg base "is_row" [("value" : Str)] 1 (sp_is_row w K) := by
  obtain ⟨fd, F⟩ := E.D_is_row
  exact ⟨_, fd, fn_mk (t := t_is_row P w K) F sc_is_row (rd_is_row E) (fun cdv A outer s H E0 hr => (pss_one (ps_ret (pe_callB call_isiT (by rfl) E.f_isinstance (by decide +kernel) (pa_cons (pv 0) (pa_cons (pe_tup (pa_cons (pe_bltn (v := .ty "tuple") (by rfl) E.f_tuple (by decide +kernel) rfl) (pa_cons (pe_bltn (v := .ty "list") (by rfl) E.f_list (by decide +kernel) rfl) pa_nil))) pa_nil)))))), (FunD.bindsN F (fun _ _ _ _ _ _ us hl => match us, hl with | [_], _ => rfl)), E.g_is_row, F.kp⟩
end K28

set_option Elab.async false
set_option linter.all false
set_option maxRecDepth 100000
set_option maxHeartbeats 4000000
namespace K28
open PySem PySem.Spec PyProof.Rows L2
open Evl (Ex)

/-! ## lists made by comprehensions: two forms of lc_run -/
section
variable {J : It} {n : Nat} {G : Hp → Prop} {Y : Nat → Hp → V → Hp → Prop} {K : PySem.W.Frag}
/-- is a list -/
def LstAt (H : Hp) (D : Addr) : Prop := ∃ ws, H D = some (.lst ws)
theorem LstAt.up {H : Hp} {D : Addr} {zs : List V} : LstAt (upd H D (.lst zs)) D := ⟨zs, upd_same⟩
theorem Frm.lst {S : Addr → Prop} {H H' : Hp} {D : Addr} (e : Frm S H H') (n : ¬ S D) (h : LstAt H D) : LstAt H' D := by
  obtain ⟨ws, q⟩ := h
  exact ⟨ws, e D _ n q⟩
/-- no test: Z by the turn, the item, the heap; I a side condition by the turn -/
theorem lc_map {g : TG} {te : TE} {vs : List Nat} {σ : L2.St} {H1 : Hp} {D : Addr} {Qd : Hp → Prop} (S : Addr → Prop) (hS : ∀ a, S a → H1 a ≠ none) (hD : H1 D = none) (w : Walk J n G Y) (hn : n ≤ 100000) (Z : Nat → V → Hp → Prop) (I : Nat → Hp → Prop)
    (hG : ∀ i H', Frm S H1 H' → I i H' → G H') (h0 : I 0 (upd H1 D (.lst [])))
    (hZ : ∀ i v H' zs, LstAt H' D → Frm S H1 H' → Z i v H' → Z i v (upd H' D (.lst zs)))
    (hI : ∀ i H' zs, LstAt H' D → Frm S H1 H' → I i H' → I i (upd H' D (.lst zs)))
    (hF : ∀ i v H' H'' j, LstAt H' D → Frm S H1 H' → Frm S H' H'' → I j H' → I (j + 1) H'' → Z i v H' → Z i v H'')
    (hs : ∀ i x H' H'' (k : VK), i < n → LstAt H' D → Frm S H1 H' → I i H' → Y i H' x H'' → (∀ y H4, Frm S H' H4 → Z i y H4 → I (i + 1) H4 → k y H4) →
      g x (wipe σ vs) H'' fun σ2 H2 => wipe σ2 vs = wipe σ vs ∧ te σ2 H2 k)
    (hd : ∀ acc H', Frm S H1 H' → H' D = some (.lst acc) → acc.length = n → (∀ (j : Nat) (v : V), acc[j]? = some v → Z j v H') → I n H' → Qd H') :
    ∃ W : Nat → Nat → Hp → Prop, (∃ m, W 0 m (upd H1 D (.lst []))) ∧ ∀ i m H, W i m H →
      (J.stop i H ∧ Qd H) ∨ (J.go i H ∧ ∃ Nx : Hp → Prop, (∀ H', Nx H' → ∃ m', m' < m ∧ W (i + 1) m' H') ∧ ∀ x H', J.yld i H x H' → g x (wipe σ vs) H' fun σ2 H2 => wipe σ2 vs = wipe σ vs ∧ tYes σ2 H2 fun b H3 =>
        if b = true then te σ2 H3 fun y H4 => ∃ acc, H4 D = some (.lst acc) ∧ acc.length < sizeLine ∧ Nx (upd H4 D (.lst (acc ++ [y]))) else Nx H3) := by
  refine lc_run (tt := tYes) S hS hD w hn (fun i acc H' => acc.length = i ∧ (∀ (j : Nat) (v : V), acc[j]? = some v → Z j v H') ∧ I i H' ∧ LstAt H' D) (fun i acc H' e p => hG i H' e p.2.2.1) ⟨rfl, fun j v q => (by simp at q), h0, .up⟩ ?_ ?_ ?_
  · intro i acc H' zs e ⟨p1, p2, p3, p4⟩
    exact ⟨p1, fun j v q => hZ j v H' zs p4 e (p2 j v q), hI i H' zs p4 e p3, .up⟩
  · intro i x acc H' H'' k k0 hi e hl ⟨p1, p2, p3, p4⟩ y kk _
    refine hs i x H' H'' k hi p4 e p3 y fun v H4 e4 z4 i4 => kk v H4 e4 ⟨by rw [List.length_append, p1]; rfl, fun j u q => ?_, i4, e4.lst (fun z => hS D z hD) p4⟩
    by_cases hj : j < acc.length
    · rw [List.getElem?_append_left hj] at q
      exact hF j u H' H4 i p4 e e4 p3 i4 (p2 j u q)
    · have hj2 : j = acc.length := by
        have := (List.getElem?_eq_some_iff.mp q).1
        rw [List.length_append, List.length_singleton] at this
        omega
      subst hj2
      rw [List.getElem?_concat_length] at q
      cases q
      rw [p1]
      exact z4
  · intro acc H' e hl ⟨p1, p2, p3, _⟩
    exact hd acc H' e hl p1 p2 p3
/-- pure, by place: what is taken at the turn i is f i -/
theorem lc_filt {g : TG} {tt : TT} {te : TE} {vs : List Nat} {σ : L2.St} {H1 : Hp} {D : Addr} {Qd : Hp → Prop} (hD : H1 D = none) (w : Walk J n G Y) (hn : n ≤ 100000) (f : Nat → Option V)
    (hG : ∀ H', Ex H1 H' → G H')
    (hs : ∀ i x H' H'' (k : VK) (k0 : Hp → Prop), i < n → Ex H1 H' → Y i H' x H'' → (∀ y H4, f i = some y → Ex H' H4 → k y H4) → (f i = none → ∀ H3, Ex H' H3 → k0 H3) →
      g x (wipe σ vs) H'' fun σ2 H2 => wipe σ2 vs = wipe σ vs ∧ tt σ2 H2 fun b H3 => if b = true then te σ2 H3 k else k0 H3)
    (hd : ∀ H', Ex H1 H' → H' D = some (.lst ((List.range n).filterMap f)) → Qd H') :
    ∃ W : Nat → Nat → Hp → Prop, (∃ m, W 0 m (upd H1 D (.lst []))) ∧ ∀ i m H, W i m H →
      (J.stop i H ∧ Qd H) ∨ (J.go i H ∧ ∃ Nx : Hp → Prop, (∀ H', Nx H' → ∃ m', m' < m ∧ W (i + 1) m' H') ∧ ∀ x H', J.yld i H x H' → g x (wipe σ vs) H' fun σ2 H2 => wipe σ2 vs = wipe σ vs ∧ tt σ2 H2 fun b H3 =>
        if b = true then te σ2 H3 fun y H4 => ∃ acc, H4 D = some (.lst acc) ∧ acc.length < sizeLine ∧ Nx (upd H4 D (.lst (acc ++ [y]))) else Nx H3) := by
  refine lc_run noS (fun _ z => z.elim) hD w hn (fun i acc H' => acc = (List.range i).filterMap f) (fun i acc H' e p => hG H' e.ex) rfl ?_ ?_ ?_
  · intro i acc H' zs e p
    exact p
  · intro i x acc H' H'' k k0 hi e hl p y kk kk0
    refine hs i x H' H'' k k0 hi e.ex y (fun v H4 q e4 => kk v H4 (.of e4) ?_) fun q H3 e3 => kk0 H3 (.of e3) ?_
    · rw [p, List.range_succ, List.filterMap_append, List.filterMap_cons_some q, List.filterMap_nil]
    · rw [p, List.range_succ, List.filterMap_append, List.filterMap_cons_none q, List.filterMap_nil, List.append_nil]
  · intro acc H' e hl p
    rw [p] at hl
    exact hd H' e.ex hl
end
/-! ## tuples stay -/
def TupK (K : PySem.W.Frag) (H H' : Hp) : Prop := ∀ a xs, SqT K H a xs → SqT K H' a xs
section
variable {K : PySem.W.Frag} {H H' H'' : Hp}
theorem TupK.refl : TupK K H H := fun _ _ h => h
theorem TupK.trans (a : TupK K H H') (b : TupK K H' H'') : TupK K H H'' := fun c xs h => b c xs (a c xs h)
theorem TupK.ex (e : Ex H H') : TupK K H H' := fun _ _ h => Evl.ex_t e h
/-- no tuple, nor one that is frozen -/
def NoTup (o : HO) : Prop := (∀ xs, o ≠ .tup xs) ∧ ∀ u v, o ≠ .frz u v
theorem noTup_lst {xs : List V} : NoTup (.lst xs) := ⟨fun _ z => (by cases z), fun _ _ z => (by cases z)⟩
theorem noTup_dK {xs : List (Key × V)} : NoTup (.dK xs) := ⟨fun _ z => (by cases z), fun _ _ z => (by cases z)⟩
theorem noTup_dT {xs : List (List Key × V)} : NoTup (.dT xs) := ⟨fun _ z => (by cases z), fun _ _ z => (by cases z)⟩
theorem noTup_ins {C d : Addr} {xs : List (Str × V)} : NoTup (.ins C d xs) := ⟨fun _ z => (by cases z), fun _ _ z => (by cases z)⟩
theorem TupK.frm {S : Addr → Prop} (e : Frm S H H') (hS : ∀ a, S a → ∀ o, H a = some o → NoTup o) : TupK K H H' := fun a xs h => by
  rcases h with h | h
  · refine .inl (h.elim (fun q => .inl (e a _ (fun z => (hS a z _ q).1 _ rfl) q)) fun ⟨o, q⟩ => .inr ⟨o, e a _ (fun z => (hS a z _ q).2 _ _ rfl) q⟩)
  · exact .inr h
theorem TupK.up {p : Addr} {u o : HO} (hp : H p = some u) (n : NoTup u) : TupK K H (upd H p o) :=
  TupK.frm (S := (· = p)) (fun a v hn q => by rw [upd_ne hn]; exact q) fun a z v q => by
    subst z
    rw [hp] at q
    cases q
    exact n
theorem TupK.lst {D : Addr} {zs : List V} (h : LstAt H D) : TupK K H (upd H D (.lst zs)) := by
  obtain ⟨ws, q⟩ := h
  exact .up q noTup_lst
end
/-! ## data without lists -/
inductive Dt (K : PySem.W.Frag) (H : Hp) : V → PyData → Prop
  | non : Dt K H .non .none
  | bl (b : Bool) : Dt K H (.bl b) (.bool b)
  | int (i : Int) : Dt K H (.int i) (.int i)
  | str (x : Str) : Dt K H (.str x) (.str x)
  | tup {a : Addr} {xs : List V} {ds : List PyData} (h : SqT K H a xs) (l : xs.length = ds.length) (all : ∀ (i : Nat) (v : V) (d : PyData), xs[i]? = some v → ds[i]? = some d → Dt K H v d) : Dt K H (.ref a) (.tuple ds)
section
variable {K : PySem.W.Frag} {H H' : Hp}
theorem Dt.tk (e : TupK K H H') {v : V} {d : PyData} (h : Dt K H v d) : Dt K H' v d := by
  induction h with
  | non => exact .non
  | bl b => exact .bl b
  | int i => exact .int i
  | str x => exact .str x
  | tup h l _ ih => exact .tup (e _ _ h) l ih
theorem dpa_of : ∀ {xs : List V} {ds : List PyData}, xs.length = ds.length → (∀ (i : Nat) (v : V) (d : PyData), xs[i]? = some v → ds[i]? = some d → Dp K H v d) → DpAll K H xs ds
  | [], [], _, _ => .nil
  | _ :: _, _ :: _, l, h => .cons (h 0 _ _ rfl rfl) (dpa_of (by simpa using l) fun i v d a b => h (i + 1) v d a b)
theorem Dt.dp {v : V} {d : PyData} (h : Dt K H v d) : Dp K H v d := by
  induction h with
  | non => exact .non
  | bl b => exact .bl b
  | int i => exact .int i
  | str x => exact .str x
  | tup h l _ ih => exact .tup h (dpa_of l ih)
/-- a list's items, all without lists -/
def DtAll (K : PySem.W.Frag) (H : Hp) (xs : List V) (ds : List PyData) : Prop := xs.length = ds.length ∧ ∀ (i : Nat) (v : V) (d : PyData), xs[i]? = some v → ds[i]? = some d → Dt K H v d
theorem DtAll.tk (e : TupK K H H') {xs : List V} {ds : List PyData} (h : DtAll K H xs ds) : DtAll K H' xs ds := ⟨h.1, fun i v d a b => (h.2 i v d a b).tk e⟩
theorem DtAll.dp {xs : List V} {ds : List PyData} (h : DtAll K H xs ds) : DpAll K H xs ds := dpa_of h.1 fun i v d a b => (h.2 i v d a b).dp
theorem DtAll.nil : DtAll K H [] [] := ⟨rfl, fun i v d a => by simp at a⟩
theorem DtAll.cons {v : V} {d : PyData} {xs : List V} {ds : List PyData} (a : Dt K H v d) (h : DtAll K H xs ds) : DtAll K H (v :: xs) (d :: ds) := ⟨by simp [h.1], fun i u e p q => by
  cases i with
  | zero => cases p; cases q; exact a
  | succ i => exact h.2 i u e p q⟩
theorem DtAll.app {xs ys : List V} {ds es : List PyData} (a : DtAll K H xs ds) (b : DtAll K H ys es) : DtAll K H (xs ++ ys) (ds ++ es) := by
  refine ⟨by rw [List.length_append, List.length_append, a.1, b.1], fun i v d p q => ?_⟩
  by_cases h : i < xs.length
  · rw [List.getElem?_append_left h] at p
    rw [List.getElem?_append_left (by rw [← a.1]; exact h)] at q
    exact a.2 i v d p q
  · rw [List.getElem?_append_right (Nat.le_of_not_lt h)] at p
    rw [List.getElem?_append_right (by rw [← a.1]; omega), ← a.1] at q
    exact b.2 _ v d p q
theorem DtAll.one {v : V} {d : PyData} (a : Dt K H v d) : DtAll K H [v] [d] := .cons a .nil
theorem DtAll.at {xs : List V} {ds : List PyData} (h : DtAll K H xs ds) {i : Nat} {d : PyData} (e : ds[i]? = some d) : ∃ v, xs[i]? = some v ∧ Dt K H v d := by
  have hi : i < xs.length := by rw [h.1]; exact (List.getElem?_eq_some_iff.mp e).1
  exact ⟨xs[i], List.getElem?_eq_getElem hi, h.2 i _ d (List.getElem?_eq_getElem hi) e⟩
theorem DtAll.get {xs : List V} {ds : List PyData} (h : DtAll K H xs ds) {i : Nat} {v : V} (e : xs[i]? = some v) : ∃ d, ds[i]? = some d ∧ Dt K H v d := by
  have hi : i < ds.length := by rw [← h.1]; exact (List.getElem?_eq_some_iff.mp e).1
  exact ⟨ds[i], List.getElem?_eq_getElem hi, h.2 i v _ e (List.getElem?_eq_getElem hi)⟩
theorem Dt.mk {a : Addr} {xs : List V} {ds : List PyData} (h : SqT K H a xs) (x : DtAll K H xs ds) : Dt K H (.ref a) (.tuple ds) := .tup h x.1 x.2
theorem Dt.tupD {v : V} {ds : List PyData} (h : Dt K H v (.tuple ds)) : ∃ a xs, v = .ref a ∧ SqT K H a xs ∧ DtAll K H xs ds := by
  cases h with
  | tup a l b => exact ⟨_, _, rfl, a, l, b⟩
theorem Dt.intD {v : V} {i : Int} (h : Dt K H v (.int i)) : v = .int i := by cases h; rfl
theorem Dt.strD {v : V} {i : Str} (h : Dt K H v (.str i)) : v = .str i := by cases h; rfl
end
/-! ## a walk over a list or a tuple -/
def iSeq (K : PySem.W.Frag) (tl : TE) : TI := fun σ H R => tl σ H fun v H' => ∃ a xs, v = .ref a ∧ Sq2 K H' a xs ∧ ∀ J G, Walk J xs.length G (YAt xs) → (∀ H2, Stay K a xs H' H2 → G H2) → R J H'
theorem pi_seq {X : Cx} {tg l : Expr} {tl : TE} (hl : PE X l tl) : PI X tg l (iSeq X.K tl) := ⟨fun pins s0 σ H R J h => by
  refine thn (hl.run pins s0 σ H _ J h) fun u s2 ⟨v, H2, J2, rv2, a, xs, ev, hq, q⟩ => ?_
  subst ev
  cases rv2
  have fp : ∀ b ∈ [s2.heap.objs.size], FpOk X pins H2 b := fun b hb => by
    rw [List.mem_singleton.mp hb]
    exact J2.fpOk (Nat.le_refl _) (J2.hok.fresh (Nat.le_refl _))
  rcases hq with hq | hq
  · obtain ⟨us, _, pl, _⟩ := J2.list hq
    exact wpAny_pyIter_list pl.isList ⟨_, [s2.heap.objs.size], _, _, H2, rfl, J2.kept (t' := s2.toks) fun b o e => Heap.get?_push_of_some _ e, turn_list a _, ⟨_, Heap.get?_push_size _ rfl, rfl, rfl⟩, fp, q _ _ walk_list fun H3 e => e.1 hq⟩
  · obtain ⟨us, _, pl, _⟩ := J2.tuple hq
    exact wpAny_pyIter_tuple (show s2.heap.IsTuple a us.toArray from pl) ⟨_, [s2.heap.objs.size], _, _, H2, rfl, J2.kept (t' := s2.toks) fun b o e => Heap.get?_push_of_some _ e, turn_tuple a _, ⟨_, Heap.get?_push_size _ rfl, rfl, rfl⟩, fp, q _ _ walk_tup fun H3 e => e.2 hq⟩⟩
/-! ## tuple(x), t + u: what they give, laid or not -/
def rTupQ (K : PySem.W.Frag) : List V → Hp → VK → Prop := fun vs H Q => ∃ a xs, vs = [.ref a] ∧ Sq2 K H a xs ∧ ∀ b H', Ex H H' → SqT K H' b xs → Q (.ref b) H'
theorem call_tuple_q {X : Cx} : CallR X (.type "tuple") (rTupQ X.K) := fun pins s σ H vs us Q I r ⟨a, xs, e, h, q⟩ => by
  refine call_tuple_of pins s σ H vs us Q I r ⟨a, xs, e, h.elim (fun z => .inl ⟨z, fun l hl => q l _ (Evl.Ex.new hl) (Evl.st_of upd_same)⟩) fun z => .inr ⟨z, q a H (Evl.Ex.refl H) z⟩⟩
def rCatQ (K : PySem.W.Frag) : R2 := fun x y H Q => ∃ a b xs ys, x = .ref a ∧ y = .ref b ∧ SqT K H a xs ∧ SqT K H b ys ∧ xs.length + ys.length ≤ 100000 ∧ ∀ c H', Ex H H' → SqT K H' c (xs ++ ys) → Q (.ref c) H'
theorem op_catQ {X : Cx} : OpR X (binaryOp .Add) (rCatQ X.K) := fun pins s σ H x y u v Q I rx ry ⟨a, b, xs, ys, ex, ey, h1, h2, hz, q⟩ => by
  refine op_catA pins s σ H x y u v Q I rx ry ⟨a, b, xs, ys, ex, ey, h1, h2, Evl.sz_of hz, fun e => ?_, fun _ e => ?_, fun _ _ p hp => q p _ (Evl.Ex.new hp) (Evl.st_of upd_same)⟩
  · refine q b H (Evl.Ex.refl H) ?_
    rw [e]
    exact h2
  · refine q a H (Evl.Ex.refl H) ?_
    rw [e, List.append_nil]
    exact h1
end K28

set_option Elab.async false
set_option linter.all false
set_option maxRecDepth 100000
set_option maxHeartbeats 4000000
namespace K28
open PySem PySem.Spec PyProof.Rows L2
open Evl (Ex)

/-! ## the written dict of words -/
theorem find_key {P : Params} {z : Str} : ∀ {l : List DictEntry} {ks : List Str}, l.map He.keyOf = He.keysIn P ks → z ∈ ks → ∃ e, l.find? (·.key.isStr z) = some e
  | [], [], _, h => by cases h
  | [], k :: ks, e, _ => by cases e
  | e :: r, [], h, _ => by cases h
  | e :: r, k :: ks, h, hz => by
    have h1 : He.keyOf e :: r.map He.keyOf = some (k, PyData.keyHash P k) :: He.keysIn P ks := h
    injection h1 with h2 h3
    by_cases hk : e.key.isStr z = true
    · exact ⟨e, List.find?_cons_of_pos (p := fun x : DictEntry => x.key.isStr z) hk⟩
    · have q0 : (e :: r).find? (·.key.isStr z) = r.find? (·.key.isStr z) := by
        rw [List.find?_cons]
        split
        · rename_i q1
          exact absurd q1 hk
        · rfl
      rw [q0]
      refine find_key h3 ?_
      rcases List.mem_cons.mp hz with q | q
      · exfalso
        unfold He.keyOf at h2
        split at h2
        · rename_i x t q2
          have h4 := Option.some.inj h2
          obtain ⟨h5, _⟩ := Prod.mk.inj h4
          apply hk
          rw [q2, h5, q]
          exact beq_self_eq_true k
        · cases h2
      · exact q
/-- at OTHER_WORDS: the four words are keys -/
def OwOk (w : World) (K : PySem.W.Frag) : Prop := ∃ es n, KDict K w (He.ga K "OTHER_WORDS") es n ∧ ∀ z ∈ (["least", "most", "is", "not"] : List Str), ∃ u, PySem.W.nsIn K (He.ga K "OTHER_WORDS") z = some (some u)
theorem Ctx.ow {w : World} {K : PySem.W.Frag} {mg : Str → Option Value} (E : Ctx w K mg) : OwOk w K := by
  obtain ⟨h, X, G, c⟩ := E.ex
  obtain ⟨es, n, D⟩ := c.t.tab 0 rfl
  refine ⟨es, n, D, fun z hz => ?_⟩
  have e : ts.map (fun t => He.dicW K (t.1 K)) = ts.map fun t => some (He.keysIn w.params t.2) := congrArg (fun z : He.AlT => z.2) c.t
  have e2 : He.dicW K (He.ga K "OTHER_WORDS") = some (He.keysIn w.params ["least", "most", "is", "not"]) := (List.cons.inj e).1
  have lk : K.lookup (He.ga K "OTHER_WORDS") = some ⟨.type "dict", none, .dict es n, #[]⟩ := D.at_
  unfold He.dicW at e2
  rw [lk] at e2
  simp only at e2
  split at e2
  · obtain ⟨e3, q⟩ := find_key (Option.some.inj e2) hz
    refine ⟨e3.val, ?_⟩
    unfold PySem.W.nsIn
    rw [lk]
    simp only
    rw [q]
  · cases e2
def rOW (K : PySem.W.Frag) : R2 := fun x y H Q => ∃ z, x = .str z ∧ y = .ref (He.ga K "OTHER_WORDS") ∧ z ∈ (["least", "most", "is", "not"] : List Str) ∧ Q (.bl true) H
theorem op_inOW {X : Cx} (D : OwOk X.w X.K) : OpR X (compareOp .In) (rOW X.K) := fun pins s σ H x y v u Q I rx ry ⟨z, ex, ey, hz, q⟩ => by
  obtain ⟨es, n, D, k⟩ := D
  obtain ⟨u, hu⟩ := k z hz
  exact op_in_kd D pins s σ H x y v _ Q I rx ry ⟨z, _, ex, ey, hu, q⟩
/-! ## what a book is -/
inductive Cd | le (k : Int) | mo (k : Int) | eq (k : Int) | ne (k : Int) | rs (m r : Int)
  deriving DecidableEq
def Cd.ds : Cd → List PyData
  | .le k => [.str "least", .int k]
  | .mo k => [.str "most", .int k]
  | .eq k => [.str "is", .int k]
  | .ne k => [.str "not", .int k]
  | .rs m r => [.str "rest", .int m, .int r]
def Cd.d (c : Cd) : PyData := .tuple c.ds
def cdsD (cs : List Cd) : PyData := .tuple (cs.map Cd.d)
structure Mv where
  place : Nat
  cds : List Cd
  shift : Int
  target : Nat
  deriving DecidableEq
structure Gw where
  place : Nat
  cds : List Cd
  deriving DecidableEq
structure Bk where
  sides : List Int
  moves : List Mv
  goals : List Gw
def Mv.ds (m : Mv) : List PyData := [.int m.place, cdsD m.cds, .int m.shift, .int m.target]
def Mv.d (m : Mv) : PyData := .tuple m.ds
def Gw.ds (g : Gw) : List PyData := [.int g.place, cdsD g.cds]
def Gw.d (g : Gw) : PyData := .tuple g.ds
def Cd.Ok : Cd → Prop
  | .rs m r => 1 ≤ m ∧ m ≤ 3 ∧ 0 ≤ r ∧ r < m
  | .le k | .mo k | .eq k | .ne k => -9 ≤ k ∧ k ≤ 9
def CdsOk (cs : List Cd) : Prop := cs.length ≤ 20 ∧ ∀ c ∈ cs, c.Ok
structure Mv.Ok (n : Nat) (m : Mv) : Prop where
  p : m.place < n
  c : CdsOk m.cds
  s0 : -3 ≤ m.shift
  s1 : m.shift ≤ 3
  t : m.target < n
structure Gw.Ok (n : Nat) (g : Gw) : Prop where
  p : g.place < n
  c : CdsOk g.cds
structure Bk.Ok (B : Bk) : Prop where
  n0 : 1 ≤ B.sides.length
  n1 : B.sides.length ≤ 7
  s : ∀ x ∈ B.sides, x = 0 ∨ x = 1
  m1 : B.moves.length ≤ 60
  g1 : B.goals.length ≤ 60
  m : ∀ m ∈ B.moves, m.Ok B.sides.length
  g : ∀ g ∈ B.goals, g.Ok B.sides.length
/-! ## a list's items by a relation -/
def Al {α : Type} (R : V → α → Prop) (xs : List V) (ys : List α) : Prop := xs.length = ys.length ∧ ∀ (i : Nat) (v : V) (y : α), xs[i]? = some v → ys[i]? = some y → R v y
section
variable {α : Type} {R S : V → α → Prop} {xs : List V} {ys : List α}
theorem Al.mono (h : Al R xs ys) (m : ∀ v y, R v y → S v y) : Al S xs ys := ⟨h.1, fun i v y a b => m v y (h.2 i v y a b)⟩
theorem Al.get (h : Al R xs ys) {i : Nat} {v : V} (e : xs[i]? = some v) : ∃ y, ys[i]? = some y ∧ R v y := by
  have hi : i < ys.length := by rw [← h.1]; exact (List.getElem?_eq_some_iff.mp e).1
  exact ⟨ys[i], List.getElem?_eq_getElem hi, h.2 i v _ e (List.getElem?_eq_getElem hi)⟩
theorem Al.at (h : Al R xs ys) {i : Nat} {y : α} (e : ys[i]? = some y) : ∃ v, xs[i]? = some v ∧ R v y := by
  have hi : i < xs.length := by rw [h.1]; exact (List.getElem?_eq_some_iff.mp e).1
  exact ⟨xs[i], List.getElem?_eq_getElem hi, h.2 i _ y (List.getElem?_eq_getElem hi) e⟩
theorem Al.app {us : List V} {zs : List α} (a : Al R xs ys) (b : Al R us zs) : Al R (xs ++ us) (ys ++ zs) := by
  refine ⟨by rw [List.length_append, List.length_append, a.1, b.1], fun i v d p q => ?_⟩
  by_cases h : i < xs.length
  · rw [List.getElem?_append_left h] at p
    rw [List.getElem?_append_left (by rw [← a.1]; exact h)] at q
    exact a.2 i v d p q
  · rw [List.getElem?_append_right (Nat.le_of_not_lt h)] at p
    rw [List.getElem?_append_right (by rw [← a.1]; omega), ← a.1] at q
    exact b.2 _ v d p q
theorem Al.nil : Al R [] [] := ⟨rfl, fun i v y a => by simp at a⟩
theorem Al.cons {v : V} {y : α} (a : R v y) (h : Al R xs ys) : Al R (v :: xs) (y :: ys) := ⟨by simp [h.1], fun i u e p q => by
  cases i with
  | zero => cases p; cases q; exact a
  | succ i => exact h.2 i u e p q⟩
theorem Al.one {v : V} {y : α} (a : R v y) : Al R [v] [y] := .cons a .nil
end
/-! ## the program's own objects -/
def fMove (p : Int) (c : V) (s t : Int) : List (Str × V) := [("place", .int p), ("conditions", c), ("shift", .int s), ("target", .int t)]
def fGoal (p : Int) (c : V) : List (Str × V) := [("place", .int p), ("conditions", c)]
def fBook (s m g : V) (n : Int) : List (Str × V) := [("sides", s), ("places", .int n), ("moves", m), ("goals", g)]
section
variable (K : PySem.W.Frag) (H : Hp)
def IsMv (v : V) (m : Mv) : Prop := ∃ a dx c, v = .ref a ∧ H a = some (.ins (He.ga K "Move") dx (fMove m.place c m.shift m.target)) ∧ Dt K H c (cdsD m.cds)
def IsGw (v : V) (g : Gw) : Prop := ∃ a dx c, v = .ref a ∧ H a = some (.ins (He.ga K "Goal") dx (fGoal g.place c)) ∧ Dt K H c (cdsD g.cds)
def IsBk (v : V) (B : Bk) : Prop := ∃ a dx sa ma ga ms gs, v = .ref a ∧ H a = some (.ins (He.ga K "Book") dx (fBook (.ref sa) (.ref ma) (.ref ga) (B.sides.length : Nat))) ∧ SqT K H sa (B.sides.map V.int) ∧ SqT K H ma ms ∧ SqT K H ga gs ∧
  Al (IsMv K H) ms B.moves ∧ Al (IsGw K H) gs B.goals
end
section
variable {K : PySem.W.Frag} {H H' : Hp}
theorem IsMv.ex (e : Ex H H') {v : V} {m : Mv} (h : IsMv K H v m) : IsMv K H' v m := by
  obtain ⟨a, dx, c, e1, e2, e3⟩ := h
  exact ⟨a, dx, c, e1, e a _ e2, e3.tk (.ex e)⟩
theorem IsGw.ex (e : Ex H H') {v : V} {m : Gw} (h : IsGw K H v m) : IsGw K H' v m := by
  obtain ⟨a, dx, c, e1, e2, e3⟩ := h
  exact ⟨a, dx, c, e1, e a _ e2, e3.tk (.ex e)⟩
theorem IsBk.ex (e : Ex H H') {v : V} {B : Bk} (h : IsBk K H v B) : IsBk K H' v B := by
  obtain ⟨a, dx, sa, ma, ga, ms, gs, e1, e2, e3, e4, e5, e6, e7⟩ := h
  exact ⟨a, dx, sa, ma, ga, ms, gs, e1, e a _ e2, Evl.ex_t e e3, Evl.ex_t e e4, Evl.ex_t e e5, e6.mono fun _ _ q => q.ex e, e7.mono fun _ _ q => q.ex e⟩
end
/-! ## as_tuples -/
/-- rows as lists or as tuples, k deep -/
inductive Lo (K : PySem.W.Frag) (H : Hp) : Nat → V → PyData → Prop
  | int (k : Nat) (i : Int) : Lo K H k (.int i) (.int i)
  | str (k : Nat) (x : Str) : Lo K H k (.str x) (.str x)
  | row {k : Nat} {a : Addr} {xs : List V} {ds : List PyData} (h : Sq2 K H a xs) (n : xs.length ≤ 1000) (l : xs.length = ds.length) (all : ∀ (i : Nat) (v : V) (d : PyData), xs[i]? = some v → ds[i]? = some d → Lo K H k v d) : Lo K H (k + 1) (.ref a) (.tuple ds)
theorem Lo.ex {K : PySem.W.Frag} {H H' : Hp} (e : Ex H H') {k : Nat} {v : V} {d : PyData} (h : Lo K H k v d) : Lo K H' k v d := by
  induction h with
  | int k i => exact .int k i
  | str k x => exact .str k x
  | row h n l _ ih => exact .row (h.ex e) n l ih
theorem Lo.tk {K : PySem.W.Frag} {H : Hp} {a : Addr} {xs : List V} {ds : List PyData} {k : Nat} (h : Lo K H k (.ref a) (.tuple ds)) : ∃ j xs, k = j + 1 ∧ Sq2 K H a xs ∧ xs.length ≤ 1000 ∧ xs.length = ds.length ∧ ∀ (i : Nat) (v : V) (d : PyData), xs[i]? = some v → ds[i]? = some d → Lo K H j v d := by
  cases h with
  | row h n l all => exact ⟨_, _, rfl, h, n, l, all⟩
def sp_as (k : Nat) (K : PySem.W.Frag) : Sp := fun vs H Q _ => ∃ v d, vs = [v] ∧ Lo K H k v d ∧ ∀ H' v', Ex H H' → Dt K H' v' d → Q v' H'
def spNo : Sp := fun _ _ _ _ => False
def N_as_tuples : List Str := ["value", "item"]
theorem sc_as_tuples : FnScope N_as_tuples ["value"] (defScope s_as_tuples) := ⟨rfl, rfl, rfl, by decide +kernel, rfl, by decide +kernel, by decide +kernel⟩
def t_as0 (w : World) (K : PySem.W.Frag) : TS := tSeq (tIfS (tB (tFn (sp_is_row w K) (tCons (tVar 0) tNil))) tNever tNext) (tRet (tVar 0))
def t_as (sp : Sp) (w : World) (K : PySem.W.Frag) : TS := tSeq (tIfS (tB (tFn (sp_is_row w K) (tCons (tVar 0) tNil)))
  (tRet (tCB (rTupOf K) (tCons (tLc (iSeq K (tVar 0)) (gName 1) tYes (tFn sp (tCons (tVar 1) tNil)) [1]) tNil))) tNext) (tRet (tVar 0))
section
variable {P : Program} {w : World} {K : PySem.W.Frag} {mg : Str → Option Value} {base : Heap} (E : Ctx w K mg)
include E
theorem ok_as0 : DefOk P w K mg base "as_tuples" ["value"] 2 (sp_as 0 K) := by
  obtain ⟨fd, F⟩ := E.D_as_tuples
  refine ⟨_, fd, fn_mk (t := t_as0 w K) F sc_as_tuples (fun vs H Q _ h => ?_) (fun cdv A outer s H E0 hr => (pss_cons (ps_if (pt_val (pe_fn (ok_is_row E) (hr.mono (by decide)) (by rfl) (pa_cons (pv 0) pa_nil))) (pss_one ps_never) pss_nil) (pss_one (ps_ret (pv 0))))),
    (FunD.bindsN F (fun _ _ _ _ _ _ us hl => match us, hl with | [_], _ => rfl)), E.g_as_tuples, F.kp⟩
  obtain ⟨v, d, rfl, lo, q⟩ := h
  refine ⟨rfl, v, rfl, ?_⟩
  cases lo with
  | int _ i => exact ⟨_, false, rfl, .int i, fun H' e => ⟨false, rfl, _, rfl, q H' _ e (.int i)⟩⟩
  | str _ x => exact ⟨_, false, rfl, .str x, fun H' e => ⟨false, rfl, _, rfl, q H' _ e (.str x)⟩⟩
theorem ok_asS {k l : Nat} (ih : DefOk P w K mg base "as_tuples" ["value"] l (sp_as k K)) (hl : 1 ≤ l) : DefOk P w K mg base "as_tuples" ["value"] (l + 1) (sp_as (k + 1) K) := by
  obtain ⟨fd, F⟩ := E.D_as_tuples
  refine ⟨_, fd, fn_mk (t := t_as (sp_as k K) w K) F sc_as_tuples (fun vs H Q _ h => ?_) (fun cdv A outer s H E0 hr => (pss_cons (ps_if (pt_val (pe_fn (ok_is_row E) (hr.mono hl) (by rfl) (pa_cons (pv 0) pa_nil)))
    (pss_one (ps_ret (pe_callTy call_tuple_of (by rfl) E.f_tuple (by decide +kernel) (pa_cons (pe_lc (own := [("item", 1)]) (wi := (iSeq K (tVar 0))) (g := (gName 1)) (tt := tYes) (te := (tFn (sp_as k K) (tCons (tVar 1) tNil))) rfl sc_as_tuples.nd (pi_seq (pv 0)) (blkOk_by (own := [("item", 1)]) (N := N_as_tuples) (sc := defScope s_as_tuples) (by decide +kernel))
      (fun _ _ _ _ _ => (pg_name (i := 1) sc_as_tuples.nd rfl (Or.inl rfl))) (fun _ _ _ _ _ => pts_nil) (fun _ _ _ _ _ => (pe_fn ih hr (by rfl) (pa_cons (pv 1) pa_nil)))) pa_nil))))
    pss_nil)
    (pss_one (ps_ret (pv 0))))), (FunD.bindsN F (fun _ _ _ _ _ _ us hl => match us, hl with | [_], _ => rfl)), E.g_as_tuples, F.kp⟩
  obtain ⟨v, d, rfl, lo, q⟩ := h
  refine ⟨rfl, v, rfl, ?_⟩
  cases lo with
  | int _ i => exact ⟨_, false, rfl, .int i, fun H' e => ⟨false, rfl, _, rfl, q H' _ e (.int i)⟩⟩
  | str _ x => exact ⟨_, false, rfl, .str x, fun H' e => ⟨false, rfl, _, rfl, q H' _ e (.str x)⟩⟩
  | @row _ a xs ds h n l all =>
    refine ⟨_, true, rfl, (h.elim (fun z => .lst z) fun z => .tup z), fun H1 e1 => ⟨true, rfl, _, rfl, a, xs, rfl, h.ex e1, fun J G W hG => ?_⟩⟩
    refine fun D hD => lc_map noS (fun _ z => z.elim) hD W (by omega) (fun i v H' => ∃ d, ds[i]? = some d ∧ Dt K H' v d) (fun _ _ => True) (fun i H' e _ => hG H' (.ex e.ex)) trivial ?_ (fun _ _ _ _ _ _ => trivial) ?_ ?_ ?_
    · exact fun i v H' zs hl e ⟨d, q1, q2⟩ => ⟨d, q1, q2.tk (.lst hl)⟩
    · exact fun i v H' H'' j hl e e2 _ _ ⟨d, q1, q2⟩ => ⟨d, q1, q2.tk (.ex e2.ex)⟩
    · rintro i x H' H'' k hi hl e - ⟨rfl, hx⟩ kk
      refine ⟨rfl, _, rfl, x, ds[i]'(by omega), rfl, (all i x _ hx (List.getElem?_eq_getElem _)).ex (e1.trans e.ex), fun H4 v4 e4 d4 => kk v4 H4 (.of e4) ⟨_, List.getElem?_eq_getElem _, d4⟩ trivial⟩
    · intro acc H' e hl len z _
      have all2 : DtAll K H' acc ds := ⟨by omega, fun i v d a b => by
        obtain ⟨d2, q1, q2⟩ := z i v a
        rw [b] at q1
        cases q1
        exact q2⟩
      exact ⟨D, acc, rfl, .inl ⟨Evl.sq_of hl, fun l hl => q _ _ ((e1.trans e.ex).trans (Ex.new hl)) (Dt.mk (Evl.st_of upd_same) (all2.tk (.ex (Ex.new hl))))⟩⟩
theorem ok_as1 : DefOk P w K mg base "as_tuples" ["value"] 3 (sp_as 1 K) := ok_asS E (ok_as0 E) (by decide)
theorem ok_as_tuples : DefOk P w K mg base "as_tuples" ["value"] 4 (sp_as 2 K) := ok_asS E (ok_as1 E) (by decide)
end
def sp_as_tuples (_ : World) (K : PySem.W.Frag) : Sp := sp_as 2 K
/-! ## Move, Goal -/
def sp_Move___init__ (w : World) (K : PySem.W.Frag) : Sp := fun vs H Q _ => ∃ a dx c m, vs = [.ref a, .int (m.place : Nat), c, .int m.shift, .int (m.target : Nat)] ∧ H a = some (.ins (He.ga K "Move") dx []) ∧ Lo K H 2 c (cdsD m.cds) ∧
  ∀ H', But a H H' → IsMv K H' (.ref a) m → Q .non H'
def sp_Goal___init__ (w : World) (K : PySem.W.Frag) : Sp := fun vs H Q _ => ∃ a dx c m, vs = [.ref a, .int (m.place : Nat), c] ∧ H a = some (.ins (He.ga K "Goal") dx []) ∧ Lo K H 2 c (cdsD m.cds) ∧
  ∀ H', But a H H' → IsGw K H' (.ref a) m → Q .non H'
theorem Lo.but {K : PySem.W.Frag} {a C d : Addr} {fs : List (Str × V)} {H H' : Hp} (e : But a H H') (ha : H a = some (.ins C d fs)) {k : Nat} {v : V} {x : PyData} (h : Lo K H k v x) : Lo K H' k v x := by
  have s : Sq K H H' := Sq.but e ha (fun _ z => by cases z) (fun _ z => by cases z) fun _ _ z => by cases z
  induction h with
  | int k i => exact .int k i
  | str k x => exact .str k x
  | row h n l _ ih => exact .row (h.elim (fun q => .inl (s.l _ _ q)) fun q => .inr (s.t _ _ q)) n l ih
def N_Move___init__ : List Str := ["self", "place", "conditions", "shift", "target"]
theorem sc_Move___init__ : FnScope N_Move___init__ ["self", "place", "conditions", "shift", "target"] (defScope s_Move___init__) := ⟨rfl, rfl, rfl, by decide +kernel, rfl, by decide +kernel, by decide +kernel⟩
/-- names: 0 self 1 place 2 conditions 3 shift 4 target -/
def t_Move___init__ (P : Program) (w : World) (K : PySem.W.Frag) : TS :=
    (tSeq (sFld K (tVar 0) (tVar 1) ("place" : Str))
    (tSeq (sFld K (tVar 0) (tFn (sp_as_tuples w K) (tCons (tVar 2) tNil)) ("conditions" : Str))
    (tSeq (sFld K (tVar 0) (tVar 3) ("shift" : Str))
    (sFld K (tVar 0) (tVar 4) ("target" : Str)))))
def N_Goal___init__ : List Str := ["self", "place", "conditions"]
theorem sc_Goal___init__ : FnScope N_Goal___init__ ["self", "place", "conditions"] (defScope s_Goal___init__) := ⟨rfl, rfl, rfl, by decide +kernel, rfl, by decide +kernel, by decide +kernel⟩
/-- names: 0 self 1 place 2 conditions -/
def t_Goal___init__ (P : Program) (w : World) (K : PySem.W.Frag) : TS :=
    (tSeq (sFld K (tVar 0) (tVar 1) ("place" : Str))
    (sFld K (tVar 0) (tFn (sp_as_tuples w K) (tCons (tVar 2) tNil)) ("conditions" : Str)))
section
variable {P : Program} {w : World} {K : PySem.W.Frag} {mg : Str → Option Value} (E : Ctx w K mg)
include E
theorem rd_Move___init__ (vs : List V) (H : Hp) (Q : VK) (E0 : XK) (h : sp_Move___init__ w K vs H Q E0) : vs.length = 5 ∧ t_Move___init__ P w K { nx := fun _ H' => Q .non H', rt := Q } (start N_Move___init__ vs) H := by
  obtain ⟨a, dx, c, m, rfl, ha, lo, q⟩ := h
  refine ⟨rfl, _, rfl, _, rfl, a, _, dx, _, rfl, ha, E.cls_Move, E.na_Move_place, (by show 0 < 1000; decide), _, rfl, ?_⟩
  refine ⟨c, _, rfl, lo.but ((But.refl a H).up _) ha, fun H2 v2 e2 d2 => ?_⟩
  refine ⟨_, rfl, a, _, dx, _, rfl, e2 a _ upd_same, E.cls_Move, E.na_Move_conditions, (by show 1 < 1000; decide), _, rfl, _, rfl, a, _, dx, _, rfl, upd_same, E.cls_Move, E.na_Move_shift, (by show 2 < 1000; decide), _, rfl, _, rfl, a, _, dx, _, rfl, upd_same, E.cls_Move, E.na_Move_target, (by show 3 < 1000; decide), ?_⟩
  have b1 : But a H H2 := ((But.refl a H).up _).trans (.of e2)
  refine q _ (((b1.up _).up _).up _) ⟨a, dx, v2, rfl, upd_same, ?_⟩
  refine d2.tk (((TupK.up (e2 a _ upd_same) noTup_ins).trans (.up upd_same noTup_ins)).trans (.up upd_same noTup_ins))
theorem rd_Goal___init__ (vs : List V) (H : Hp) (Q : VK) (E0 : XK) (h : sp_Goal___init__ w K vs H Q E0) : vs.length = 3 ∧ t_Goal___init__ P w K { nx := fun _ H' => Q .non H', rt := Q } (start N_Goal___init__ vs) H := by
  obtain ⟨a, dx, c, m, rfl, ha, lo, q⟩ := h
  refine ⟨rfl, _, rfl, _, rfl, a, _, dx, _, rfl, ha, E.cls_Goal, E.na_Goal_place, (by show 0 < 1000; decide), _, rfl, ?_⟩
  refine ⟨c, _, rfl, lo.but ((But.refl a H).up _) ha, fun H2 v2 e2 d2 => ?_⟩
  refine ⟨_, rfl, a, _, dx, _, rfl, e2 a _ upd_same, E.cls_Goal, E.na_Goal_conditions, (by show 1 < 1000; decide), ?_⟩
  have b1 : But a H H2 := ((But.refl a H).up _).trans (.of e2)
  exact q _ (b1.up _) ⟨a, dx, v2, rfl, upd_same, d2.tk (.up (e2 a _ upd_same) noTup_ins)⟩
end
theorem mk_Move {P : Program} {w : World} {K : PySem.W.Frag} {mg : Str → Option Value} {base : Heap} (E : Ctx w K mg) : MkOk P w K mg base "Move" (He.ga K "Move") [("self" : Str), ("place" : Str), ("conditions" : Str), ("shift" : Str), ("target" : Str)] 6 (sp_Move___init__ w K) := by
  obtain ⟨fd, F⟩ := E.D_Move___init__
  exact ⟨_, fd, fn_mk (t := t_Move___init__ P w K) F sc_Move___init__ (rd_Move___init__ E) (fun cdv A outer s H E0 hr => (pss_cons (ps_fld (pv 0) (pv 1) rfl)
    (pss_cons (ps_fld (pv 0) (pe_fn (ok_as_tuples E) (hr.mono (by decide)) (by rfl) (pa_cons (pv 2) pa_nil)) rfl)
    (pss_cons (ps_fld (pv 0) (pv 3) rfl)
    (pss_one (ps_fld (pv 0) (pv 4) rfl)))))), (FunD.bindsN F (fun _ _ _ _ _ _ us hl => match us, hl with | [_, _, _, _, _], _ => rfl)), E.mk_Move, E.g_Move⟩
theorem mk_Goal {P : Program} {w : World} {K : PySem.W.Frag} {mg : Str → Option Value} {base : Heap} (E : Ctx w K mg) : MkOk P w K mg base "Goal" (He.ga K "Goal") [("self" : Str), ("place" : Str), ("conditions" : Str)] 6 (sp_Goal___init__ w K) := by
  obtain ⟨fd, F⟩ := E.D_Goal___init__
  exact ⟨_, fd, fn_mk (t := t_Goal___init__ P w K) F sc_Goal___init__ (rd_Goal___init__ E) (fun cdv A outer s H E0 hr => (pss_cons (ps_fld (pv 0) (pv 1) rfl)
    (pss_one (ps_fld (pv 0) (pe_fn (ok_as_tuples E) (hr.mono (by decide)) (by rfl) (pa_cons (pv 2) pa_nil)) rfl)))), (FunD.bindsN F (fun _ _ _ _ _ _ us hl => match us, hl with | [_, _, _], _ => rfl)), E.mk_Goal, E.g_Goal⟩
end K28

set_option Elab.async false
set_option linter.all false
set_option maxRecDepth 100000
set_option maxHeartbeats 4000000
namespace K28
open PySem PySem.Spec PyProof.Rows L2
open Evl (Ex)

theorem DefOk.at {P : Program} {w : World} {K : PySem.W.Frag} {mg : Str → Option Value} {base : Heap} {x : Str} {ps : List Str} {k : Nat} {sp : Sp} {f : Addr} (D : DefOk P w K mg base x ps k sp) (g : mg x = some (.ref f)) :
    ∃ fd, FnOk P w K mg base CX0 k f fd ps sp ∧ Binds K fd ps [] ∧ PySem.W.keepIn K (.ref f) = true := by
  obtain ⟨f2, fd, F, b, g2, kp⟩ := D
  rw [g] at g2
  cases g2
  exact ⟨fd, F, b, kp⟩
theorem bt {p : Prop} [Decidable p] (h : p) : V.bl (decide p) = .bl true := congrArg V.bl (decide_eq_true h)
theorem bf {p : Prop} [Decidable p] (h : ¬ p) : V.bl (decide p) = .bl false := congrArg V.bl (decide_eq_false h)
theorem qt {p : Prop} [Decidable p] {Q : VK} {H : Hp} (h : p) (q : Q (.bl true) H) : Q (.bl (decide p)) H := by
  rw [bt h]
  exact q
theorem qf {p : Prop} [Decidable p] {Q : VK} {H : Hp} (h : ¬ p) (q : Q (.bl false) H) : Q (.bl (decide p)) H := by
  rw [bf h]
  exact q
theorem fm_const {α : Type} (v : α) : ∀ n : Nat, (List.range n).filterMap (fun _ => some v) = List.replicate n v
  | 0 => rfl
  | n + 1 => by rw [List.range_succ, List.filterMap_append, fm_const v n, List.replicate_succ']; rfl
theorem all_rep (n : Nat) : (List.replicate n true).all id = true := by simp
/-! ## conditions, places, moves, goals: the checks of what is right -/
def sp_is_condition (w : World) (K : PySem.W.Frag) : Sp := fun vs H Q _ => ∃ v c, vs = [v] ∧ Dt K H v (Cd.d c) ∧ c.Ok ∧ ∀ H', Ex H H' → Q (.bl true) H'
def sp_are_conditions (w : World) (K : PySem.W.Frag) : Sp := fun vs H Q _ => ∃ v c, vs = [v] ∧ Dt K H v (cdsD c) ∧ CdsOk c ∧ ∀ H', Ex H H' → Q (.bl true) H'
def sp_is_place_of (w : World) (K : PySem.W.Frag) : Sp := fun vs H Q _ => ∃ i n : Nat, vs = [.int i, .int n] ∧ i < n ∧ Q (.bl true) H
def sp_is_move_of (w : World) (K : PySem.W.Frag) : Sp := fun vs H Q _ => ∃ v m, ∃ n : Nat, vs = [v, .int n] ∧ IsMv K H v m ∧ m.Ok n ∧ ∀ H', Ex H H' → Q (.bl true) H'
def sp_is_goal_of (w : World) (K : PySem.W.Frag) : Sp := fun vs H Q _ => ∃ v m, ∃ n : Nat, vs = [v, .int n] ∧ IsGw K H v m ∧ m.Ok n ∧ ∀ H', Ex H H' → Q (.bl true) H'
def sp_check_itemsM (w : World) (K : PySem.W.Frag) : Sp := fun vs H Q _ => ∃ (x : V) (a : Addr) (n : Nat) (xs : List V) (ms : List Mv), vs = [x, .ref a, .int n, .ref (He.ga K "is_move_of")] ∧ Sq2 K H a xs ∧ Al (IsMv K H) xs ms ∧ (∀ m ∈ ms, m.Ok n) ∧ ∀ H', Ex H H' → Q .non H'
def sp_check_itemsG (w : World) (K : PySem.W.Frag) : Sp := fun vs H Q _ => ∃ (x : V) (a : Addr) (n : Nat) (xs : List V) (ms : List Gw), vs = [x, .ref a, .int n, .ref (He.ga K "is_goal_of")] ∧ Sq2 K H a xs ∧ Al (IsGw K H) xs ms ∧ (∀ m ∈ ms, m.Ok n) ∧ ∀ H', Ex H H' → Q .non H'
def N_is_condition : List Str := ["value"]
theorem sc_is_condition : FnScope N_is_condition ["value"] (defScope s_is_condition) := ⟨rfl, rfl, rfl, by decide +kernel, rfl, by decide +kernel, by decide +kernel⟩
/-- names: 0 value -/
def t_is_condition (P : Program) (w : World) (K : PySem.W.Frag) : TS :=
    (tSeq (tIfS (tOr (tNot (tB (tFn (sp_is_row w K) (tCons (tVar 0) tNil)))) (tOr (tTest (tOp (rIn K true) (tCB (rLenX K) (tCons (tVar 0) tNil)) (tLst (tCons (tC (.int 2)) (tCons (tC (.int 3)) tNil))))) (tNot (tB (tCB (rIsi K) (tCons (tOp (rIxT K) (tVar 0) (tC (.int 0))) (tCons (tC (.ty "str")) tNil)))))))
    (tRet (tC (.bl false)))
    tNext)
    (tSeq (tIfS (tTest (tOp rEq (tCB (rLenX K) (tCons (tVar 0) tNil)) (tC (.int 2))))
    (tRet (tAndV (tOp (rOW K) (tOp (rIxT K) (tVar 0) (tC (.int 0))) (tC (.ref (He.ga K "OTHER_WORDS")))) (tFn (sp_is_int w K) (tCons (tOp (rIxT K) (tVar 0) (tC (.int 1))) tNil))))
    tNext)
    (tRet (tAndV (tOp rEq (tOp (rIxT K) (tVar 0) (tC (.int 0))) (tC (.str "rest"))) (tAndV (tFn (sp_is_int w K) (tCons (tOp (rIxT K) (tVar 0) (tC (.int 1))) tNil)) (tAndV (tFn (sp_is_int w K) (tCons (tOp (rIxT K) (tVar 0) (tC (.int 2))) tNil)) (tChain rLeI rLtI (tC (.int 0)) (tOp (rIxT K) (tVar 0) (tC (.int 2))) (tOp (rIxT K) (tVar 0) (tC (.int 1))))))))))
def N_are_conditions : List Str := ["value", "item"]
theorem sc_are_conditions : FnScope N_are_conditions ["value"] (defScope s_are_conditions) := ⟨rfl, rfl, rfl, by decide +kernel, rfl, by decide +kernel, by decide +kernel⟩
/-- names: 0 value 1 item -/
def t_are_conditions (P : Program) (w : World) (K : PySem.W.Frag) : TS :=
    (tRet (tAndV (tFn (sp_is_row w K) (tCons (tVar 0) tNil)) (tCB (rAll K) (tCons (tLc (iTup K (tVar 0)) (gName 1) tYes (tFn (sp_is_condition w K) (tCons (tVar 1) tNil)) [1]) tNil))))
def N_is_place_of : List Str := ["value", "places"]
theorem sc_is_place_of : FnScope N_is_place_of ["value", "places"] (defScope s_is_place_of) := ⟨rfl, rfl, rfl, by decide +kernel, rfl, by decide +kernel, by decide +kernel⟩
/-- names: 0 value 1 places -/
def t_is_place_of (P : Program) (w : World) (K : PySem.W.Frag) : TS :=
    (tRet (tAndV (tFn (sp_is_int w K) (tCons (tVar 0) tNil)) (tChain rLeI rLtI (tC (.int 0)) (tVar 0) (tVar 1))))
def N_is_move_of : List Str := ["value", "places"]
theorem sc_is_move_of : FnScope N_is_move_of ["value", "places"] (defScope s_is_move_of) := ⟨rfl, rfl, rfl, by decide +kernel, rfl, by decide +kernel, by decide +kernel⟩
/-- names: 0 value 1 places -/
def t_is_move_of (P : Program) (w : World) (K : PySem.W.Frag) : TS :=
    (tRet (tAndV (tCB (rIsi K) (tCons (tVar 0) (tCons (tC (.ref (He.ga K "Move"))) tNil))) (tAndV (tFn (sp_is_place_of w K) (tCons (tFld K (tVar 0) ("place" : Str)) (tCons (tVar 1) tNil))) (tAndV (tFn (sp_are_conditions w K) (tCons (tFld K (tVar 0) ("conditions" : Str)) tNil)) (tAndV (tFn (sp_is_int w K) (tCons (tFld K (tVar 0) ("shift" : Str)) tNil)) (tFn (sp_is_place_of w K) (tCons (tFld K (tVar 0) ("target" : Str)) (tCons (tVar 1) tNil))))))))
def N_is_goal_of : List Str := ["value", "places"]
theorem sc_is_goal_of : FnScope N_is_goal_of ["value", "places"] (defScope s_is_goal_of) := ⟨rfl, rfl, rfl, by decide +kernel, rfl, by decide +kernel, by decide +kernel⟩
/-- names: 0 value 1 places -/
def t_is_goal_of (P : Program) (w : World) (K : PySem.W.Frag) : TS :=
    (tRet (tAndV (tCB (rIsi K) (tCons (tVar 0) (tCons (tC (.ref (He.ga K "Goal"))) tNil))) (tAndV (tFn (sp_is_place_of w K) (tCons (tFld K (tVar 0) ("place" : Str)) (tCons (tVar 1) tNil))) (tFn (sp_are_conditions w K) (tCons (tFld K (tVar 0) ("conditions" : Str)) tNil)))))
def N_check_items : List Str := ["what", "items", "places", "is_good", "index", "item"]
theorem sc_check_items : FnScope N_check_items ["what", "items", "places", "is_good"] (defScope s_check_items) := ⟨rfl, rfl, rfl, by decide +kernel, rfl, by decide +kernel, by decide +kernel⟩
/-- names: 0 what 1 items 2 places 3 is_good 4 index 5 item -/
def t_check_itemsM (P : Program) (w : World) (K : PySem.W.Frag) : TS :=
    (tSeq (tIfS (tNot (tB (tFn (sp_is_row w K) (tCons (tVar 1) tNil))))
    tNever
    tNext)
    (tFor (iEnumS K (tCons (tVar 1) tNil)) (gTup K 2 (gCons (gName 4) (gCons (gName 5) gNil)))
    (tIfS (tNot (tB (tCallL 3 (He.ga K "is_move_of") (sp_is_move_of w K) [] E0 (tCons (tVar 5) (tCons (tVar 2) tNil)))))
    tNever
    tNext)))
/-- names: 0 what 1 items 2 places 3 is_good 4 index 5 item -/
def t_check_itemsG (P : Program) (w : World) (K : PySem.W.Frag) : TS :=
    (tSeq (tIfS (tNot (tB (tFn (sp_is_row w K) (tCons (tVar 1) tNil))))
    tNever
    tNext)
    (tFor (iEnumS K (tCons (tVar 1) tNil)) (gTup K 2 (gCons (gName 4) (gCons (gName 5) gNil)))
    (tIfS (tNot (tB (tCallL 3 (He.ga K "is_goal_of") (sp_is_goal_of w K) [] E0 (tCons (tVar 5) (tCons (tVar 2) tNil)))))
    tNever
    tNext)))
theorem DtAll.two {K : PySem.W.Frag} {H : Hp} {xs : List V} {d e : PyData} (h : DtAll K H xs [d, e]) : ∃ u v, xs = [u, v] ∧ Dt K H u d ∧ Dt K H v e := by
  obtain ⟨l, h⟩ := h
  match xs, l with
  | [u, v], _ => exact ⟨u, v, rfl, h 0 _ _ rfl rfl, h 1 _ _ rfl rfl⟩
theorem DtAll.three {K : PySem.W.Frag} {H : Hp} {xs : List V} {d e f : PyData} (h : DtAll K H xs [d, e, f]) : ∃ u v w, xs = [u, v, w] ∧ Dt K H u d ∧ Dt K H v e ∧ Dt K H w f := by
  obtain ⟨l, h⟩ := h
  match xs, l with
  | [u, v, w], _ => exact ⟨u, v, w, rfl, h 0 _ _ rfl rfl, h 1 _ _ rfl rfl, h 2 _ _ rfl rfl⟩
/-- what a condition's tuple is -/
theorem cd_tup {K : PySem.W.Frag} {H : Hp} {v : V} {c : Cd} (h : Dt K H v c.d) : ∃ a, v = .ref a ∧ ((∃ z k, z ∈ (["least", "most", "is", "not"] : List Str) ∧ c.ds = [.str z, .int k] ∧ SqT K H a [.str z, .int k]) ∨
    ∃ m r, c = .rs m r ∧ SqT K H a [.str "rest", .int m, .int r]) := by
  obtain ⟨a, xs, e, s, t⟩ := h.tupD
  refine ⟨a, e, ?_⟩
  have two : ∀ (z : Str) (k : Int), c.ds = [.str z, .int k] → SqT K H a [.str z, .int k] := fun z k q => by
    rw [q] at t
    obtain ⟨u, v, rfl, d1, d2⟩ := t.two
    rw [d1.strD, d2.intD] at s
    exact s
  cases c with
  | le k => exact .inl ⟨_, k, by simp, rfl, two _ k rfl⟩
  | mo k => exact .inl ⟨_, k, by simp, rfl, two _ k rfl⟩
  | eq k => exact .inl ⟨_, k, by simp, rfl, two _ k rfl⟩
  | ne k => exact .inl ⟨_, k, by simp, rfl, two _ k rfl⟩
  | rs m r =>
    obtain ⟨u, v, w, rfl, d1, d2, d3⟩ := t.three
    rw [d1.strD, d2.intD, d3.intD] at s
    exact .inr ⟨m, r, rfl, s⟩
section
variable {P : Program} {w : World} {K : PySem.W.Frag} {mg : Str → Option Value} (E : Ctx w K mg)
include E
theorem rd_is_condition (vs : List V) (H : Hp) (Q : VK) (E0 : XK) (h : sp_is_condition w K vs H Q E0) : vs.length = 1 ∧ t_is_condition P w K { nx := fun _ H' => Q .non H', rt := Q } (start N_is_condition vs) H := by
  obtain ⟨v, c, rfl, d, ok, q⟩ := h
  obtain ⟨a, rfl, ⟨z, k, hz, _, s⟩ | ⟨m, r, rfl, s⟩⟩ := cd_tup d
  · refine ⟨rfl, _, rfl, _, true, rfl, .tup s, fun H1 e1 => ⟨true, rfl, _, rfl, _, 2, rfl, .inr ⟨_, Evl.ex_t e1 s, rfl⟩, (by show 2 ≤ sizeLine; decide), fun p hp => ?_⟩⟩
    have e2 : Ex H (upd H1 p (.lst [.int 2, .int 3])) := e1.trans (Ex.new hp)
    have s2 := Evl.ex_t e2 s
    refine ⟨p, _, rfl, .inl (Evl.sq_of upd_same), rfl, rfl, _, rfl, _, rfl, a, _, 0, _, rfl, rfl, s2, rfl, _, .ty "str", .type "str", _, true, rfl, .ty _, .base (.str z), kit_ty (by decide +kernel), true, rfl, ?_⟩
    refine ⟨_, rfl, _, 2, rfl, .inr ⟨_, s2, rfl⟩, rfl, true, rfl, ?_⟩
    refine ⟨_, rfl, a, _, 0, _, rfl, rfl, s2, rfl, z, rfl, rfl, hz, true, rfl, _, rfl, a, _, 1, _, rfl, rfl, s2, rfl, .int k, true, rfl, .int k, q _ e2⟩
  · refine ⟨rfl, _, rfl, _, true, rfl, .tup s, fun H1 e1 => ⟨true, rfl, _, rfl, _, 3, rfl, .inr ⟨_, Evl.ex_t e1 s, rfl⟩, (by show 2 ≤ sizeLine; decide), fun p hp => ?_⟩⟩
    have e2 : Ex H (upd H1 p (.lst [.int 2, .int 3])) := e1.trans (Ex.new hp)
    have s2 := Evl.ex_t e2 s
    obtain ⟨o1, o2, o3, o4⟩ := ok
    refine ⟨p, _, rfl, .inl (Evl.sq_of upd_same), rfl, rfl, _, rfl, _, rfl, a, _, 0, _, rfl, rfl, s2, rfl, _, .ty "str", .type "str", _, true, rfl, .ty _, .base (.str "rest"), kit_ty (by decide +kernel), true, rfl, ?_⟩
    refine ⟨_, rfl, _, 3, rfl, .inr ⟨_, s2, rfl⟩, rfl, false, rfl, ?_⟩
    refine ⟨_, rfl, a, _, 0, _, rfl, rfl, s2, rfl, rfl, true, rfl, _, rfl, a, _, 1, _, rfl, rfl, s2, rfl, .int m, true, rfl, .int m, true, rfl, _, rfl, a, _, 2, _, rfl, rfl, s2, rfl, .int r, true, rfl, .int r, true, rfl, ?_⟩
    refine ⟨_, rfl, a, _, 2, _, rfl, rfl, s2, rfl, 0, r, rfl, rfl, true, bt o3, ?_⟩
    refine ⟨_, rfl, a, _, 1, _, rfl, rfl, s2, rfl, r, m, rfl, rfl, ?_⟩
    exact qt o4 (q _ e2)
theorem rd_are_conditions (vs : List V) (H : Hp) (Q : VK) (E0 : XK) (h : sp_are_conditions w K vs H Q E0) : vs.length = 1 ∧ t_are_conditions P w K { nx := fun _ H' => Q .non H', rt := Q } (start N_are_conditions vs) H := by
  obtain ⟨v, c, rfl, d, ⟨ok1, ok2⟩, q⟩ := h
  obtain ⟨a, xs, rfl, s, t⟩ := d.tupD
  refine ⟨rfl, _, rfl, _, true, rfl, .tup s, fun H1 e1 => ⟨true, rfl, ?_⟩⟩
  have len : xs.length = c.length := by rw [t.1, List.length_map]
  refine ⟨_, rfl, a, rfl, ⟨xs, Evl.ex_t e1 s⟩, fun D hD => lc_filt hD (walk_tup (xs := xs)) (by omega) (fun _ => some (.bl true)) (fun H' e => Evl.ex_t (e1.trans e) s) ?_ ?_⟩
  · rintro i x H' H'' k k0 hi e ⟨rfl, hx⟩ kk kk0
    have hc : (c.map Cd.d)[i]? = some (c[i]'(by omega)).d := by rw [List.getElem?_map, List.getElem?_eq_getElem (by omega)]; rfl
    refine ⟨rfl, _, rfl, x, c[i]'(by omega), rfl, (t.2 i x _ hx hc).tk (.ex (e1.trans e)), ok2 _ (List.getElem_mem _), fun H4 e4 => kk _ H4 rfl e4⟩
  · intro H' e hl
    rw [fm_const] at hl
    refine ⟨D, List.replicate xs.length true, rfl, .inl (.inl ?_), ?_⟩
    · rw [hl, List.map_replicate]
    · rw [all_rep]
      exact q H' (e1.trans e)
theorem rd_is_place_of (vs : List V) (H : Hp) (Q : VK) (E0 : XK) (h : sp_is_place_of w K vs H Q E0) : vs.length = 2 ∧ t_is_place_of P w K { nx := fun _ H' => Q .non H', rt := Q } (start N_is_place_of vs) H := by
  obtain ⟨i, n, rfl, hi, q⟩ := h
  have h0 : (0 : Int) ≤ (i : Nat) := by omega
  have h1 : ((i : Nat) : Int) < (n : Nat) := by omega
  exact ⟨rfl, _, rfl, _, true, rfl, .int _, true, rfl, _, rfl, 0, _, rfl, rfl, true, bt h0, _, rfl, _, _, rfl, rfl, qt h1 q⟩
theorem isi_move {H : Hp} {a dx : Addr} {fs : List (Str × V)} (h : H a = some (.ins (He.ga K "Move") dx fs)) : TyX K H (.ref a) (.ref (He.ga K "Move")) ∧ PySem.W.kitOne K (.ref (He.ga K "Move")) (.ref (He.ga K "Move")) = some true := by
  obtain ⟨h0, X, G, c⟩ := E.ex
  have b : isiB K "Move" = true := ex_at c.more 12 rfl
  obtain ⟨b1, b2⟩ := He.ba b
  obtain ⟨b3, b4⟩ := He.ba b2
  obtain ⟨b5, _⟩ := He.ba b4
  exact ⟨.base (.ins h E.cls_Move (He.eqO_ok b1) (He.eqO_ok (ex_at c.more 14 rfl)) (of_decide_eq_true (ex_at c.more 15 rfl)) (of_decide_eq_true b3)), of_decide_eq_true b5⟩
theorem isi_goal {H : Hp} {a dx : Addr} {fs : List (Str × V)} (h : H a = some (.ins (He.ga K "Goal") dx fs)) : TyX K H (.ref a) (.ref (He.ga K "Goal")) ∧ PySem.W.kitOne K (.ref (He.ga K "Goal")) (.ref (He.ga K "Goal")) = some true := by
  obtain ⟨h0, X, G, c⟩ := E.ex
  have b : isiB K "Goal" = true := ex_at c.more 13 rfl
  obtain ⟨b1, b2⟩ := He.ba b
  obtain ⟨b3, b4⟩ := He.ba b2
  obtain ⟨b5, _⟩ := He.ba b4
  exact ⟨.base (.ins h E.cls_Goal (He.eqO_ok b1) (He.eqO_ok (ex_at c.more 14 rfl)) (of_decide_eq_true (ex_at c.more 15 rfl)) (of_decide_eq_true b3)), of_decide_eq_true b5⟩
theorem rd_is_move_of (vs : List V) (H : Hp) (Q : VK) (E0 : XK) (h : sp_is_move_of w K vs H Q E0) : vs.length = 2 ∧ t_is_move_of P w K { nx := fun _ H' => Q .non H', rt := Q } (start N_is_move_of vs) H := by
  obtain ⟨v, m, n, rfl, ⟨a, dx, c, rfl, ha, hc⟩, ok, q⟩ := h
  obtain ⟨ty, kt⟩ := isi_move E ha
  refine ⟨rfl, _, rfl, _, .ref _, _, _, true, rfl, .own _, ty, kt, true, rfl, _, rfl, a, _, dx, _, _, rfl, ha, E.cls_Move, E.na_Move_place, rfl, _, rfl, m.place, n, rfl, ok.p, true, rfl, ?_⟩
  refine ⟨_, rfl, a, _, dx, _, _, rfl, ha, E.cls_Move, E.na_Move_conditions, rfl, _, m.cds, rfl, hc, ok.c, fun H1 e1 => ⟨true, rfl, ?_⟩⟩
  refine ⟨_, rfl, a, _, dx, _, _, rfl, e1 a _ ha, E.cls_Move, E.na_Move_shift, rfl, _, true, rfl, .int _, true, rfl, _, rfl, a, _, dx, _, _, rfl, e1 a _ ha, E.cls_Move, E.na_Move_target, rfl, _, rfl, m.target, n, rfl, ok.t, q H1 e1⟩
theorem rd_is_goal_of (vs : List V) (H : Hp) (Q : VK) (E0 : XK) (h : sp_is_goal_of w K vs H Q E0) : vs.length = 2 ∧ t_is_goal_of P w K { nx := fun _ H' => Q .non H', rt := Q } (start N_is_goal_of vs) H := by
  obtain ⟨v, m, n, rfl, ⟨a, dx, c, rfl, ha, hc⟩, ok, q⟩ := h
  obtain ⟨ty, kt⟩ := isi_goal E ha
  refine ⟨rfl, _, rfl, _, .ref _, _, _, true, rfl, .own _, ty, kt, true, rfl, _, rfl, a, _, dx, _, _, rfl, ha, E.cls_Goal, E.na_Goal_place, rfl, _, rfl, m.place, n, rfl, ok.p, true, rfl, ?_⟩
  exact ⟨_, rfl, a, _, dx, _, _, rfl, ha, E.cls_Goal, E.na_Goal_conditions, rfl, _, m.cds, rfl, hc, ok.c, fun H1 e1 => q H1 e1⟩
end
theorem ok_is_condition {P : Program} {w : World} {K : PySem.W.Frag} {mg : Str → Option Value} {base : Heap} (E : Ctx w K mg) : DefOk P w K mg base "is_condition" [("value" : Str)] 2 (sp_is_condition w K) := by
  obtain ⟨fd, F⟩ := E.D_is_condition
  exact ⟨_, fd, fn_mk (t := t_is_condition P w K) F sc_is_condition (rd_is_condition E) (fun cdv A outer s H E0 hr => (pss_cons (ps_if (PW.pt (pw_or (pt_not (pt_val (pe_fn (ok_is_row E) (hr.mono (by decide)) (by rfl) (pa_cons (pv 0) pa_nil)))) (pw_or (pt_cmpR op_notIn_seq (pe_callB call_len (by rfl) E.f_len (by decide +kernel) (pa_cons (pv 0) pa_nil)) (pe_lst (pa_cons pe_int (pa_cons pe_int pa_nil))) (by rfl)) (pw_or1 (pt_not (pt_val (pe_callB call_isi (by rfl) E.f_isinstance (by decide +kernel) (pa_cons (pe_ix ix_tup (pv 0) pe_int (fun _ _ => rfl)) (pa_cons (pe_bltn (v := .ty "str") (by rfl) E.f_str (by decide +kernel) rfl) pa_nil)))))))))
    (pss_one (ps_ret pe_bl))
    pss_nil)
    (pss_cons (ps_if (pt_cmpR op_eq (pe_callB call_len (by rfl) E.f_len (by decide +kernel) (pa_cons (pv 0) pa_nil)) pe_int (nomark _))
    (pss_one (ps_ret (pe_and (pe_cmpR (op_inOW E.ow) (pe_ix ix_tup (pv 0) pe_int (fun _ _ => rfl)) (pe_glob (by rfl) E.g_OTHER_WORDS rfl) (by rfl)) (pe_one (pe_fn (ok_is_int E) (hr.mono (by decide)) (by rfl) (pa_cons (pe_ix ix_tup (pv 0) pe_int (fun _ _ => rfl)) pa_nil))))))
    pss_nil)
    (pss_one (ps_ret (pe_and (pe_cmpR op_eq (pe_ix ix_tup (pv 0) pe_int (fun _ _ => rfl)) pe_str (nomark _)) (pe_and (pe_fn (ok_is_int E) (hr.mono (by decide)) (by rfl) (pa_cons (pe_ix ix_tup (pv 0) pe_int (fun _ _ => rfl)) pa_nil)) (pe_and (pe_fn (ok_is_int E) (hr.mono (by decide)) (by rfl) (pa_cons (pe_ix ix_tup (pv 0) pe_int (fun _ _ => rfl)) pa_nil)) (pe_one (pe_chain op_le op_lt pe_int (pe_ix ix_tup (pv 0) pe_int (fun _ _ => rfl)) (pe_ix ix_tup (pv 0) pe_int (fun _ _ => rfl)))))))))))), (FunD.bindsN F (fun _ _ _ _ _ _ us hl => match us, hl with | [_], _ => rfl)), E.g_is_condition, F.kp⟩
theorem ok_are_conditions {P : Program} {w : World} {K : PySem.W.Frag} {mg : Str → Option Value} {base : Heap} (E : Ctx w K mg) : DefOk P w K mg base "are_conditions" [("value" : Str)] 3 (sp_are_conditions w K) := by
  obtain ⟨fd, F⟩ := E.D_are_conditions
  exact ⟨_, fd, fn_mk (t := t_are_conditions P w K) F sc_are_conditions (rd_are_conditions E) (fun cdv A outer s H E0 hr => (pss_one (ps_ret (pe_and (pe_fn (ok_is_row E) (hr.mono (by decide)) (by rfl) (pa_cons (pv 0) pa_nil)) (pe_one (pe_callB (cr_all rfl) (by rfl) E.f_all (by decide +kernel) (pa_cons (pe_lc (own := [("item", 1)]) (wi := (iTup K (tVar 0))) (g := (gName 1)) (tt := tYes) (te := (tFn (sp_is_condition w K) (tCons (tVar 1) tNil))) rfl sc_are_conditions.nd (pi_tup (pv 0)) (blkOk_by (own := [("item", 1)]) (N := N_are_conditions) (sc := defScope s_are_conditions) (by decide +kernel)) (fun _ _ _ _ _ => (pg_name (i := 1) sc_are_conditions.nd rfl (Or.inl rfl))) (fun _ _ _ _ _ => pts_nil) (fun _ _ _ _ _ => (pe_fn (ok_is_condition E) (hr.mono (by decide)) (by rfl) (pa_cons (pv 1) pa_nil)))) pa_nil))))))), (FunD.bindsN F (fun _ _ _ _ _ _ us hl => match us, hl with | [_], _ => rfl)), E.g_are_conditions, F.kp⟩
theorem ok_is_place_of {P : Program} {w : World} {K : PySem.W.Frag} {mg : Str → Option Value} {base : Heap} (E : Ctx w K mg) : DefOk P w K mg base "is_place_of" [("value" : Str), ("places" : Str)] 2 (sp_is_place_of w K) := by
  obtain ⟨fd, F⟩ := E.D_is_place_of
  exact ⟨_, fd, fn_mk (t := t_is_place_of P w K) F sc_is_place_of (rd_is_place_of E) (fun cdv A outer s H E0 hr => (pss_one (ps_ret (pe_and (pe_fn (ok_is_int E) (hr.mono (by decide)) (by rfl) (pa_cons (pv 0) pa_nil)) (pe_one (pe_chain op_le op_lt pe_int (pv 0) (pv 1))))))), (FunD.bindsN F (fun _ _ _ _ _ _ us hl => match us, hl with | [_, _], _ => rfl)), E.g_is_place_of, F.kp⟩
theorem ok_is_move_of {P : Program} {w : World} {K : PySem.W.Frag} {mg : Str → Option Value} {base : Heap} (E : Ctx w K mg) : DefOk P w K mg base "is_move_of" [("value" : Str), ("places" : Str)] 4 (sp_is_move_of w K) := by
  obtain ⟨fd, F⟩ := E.D_is_move_of
  exact ⟨_, fd, fn_mk (t := t_is_move_of P w K) F sc_is_move_of (rd_is_move_of E) (fun cdv A outer s H E0 hr => (pss_one (ps_ret (pe_and (pe_callB call_isi (by rfl) E.f_isinstance (by decide +kernel) (pa_cons (pv 0) (pa_cons (pe_glob (by rfl) E.g_Move rfl) pa_nil))) (pe_and (pe_fn (ok_is_place_of E) (hr.mono (by decide)) (by rfl) (pa_cons (pe_fld (pv 0) rfl) (pa_cons (pv 1) pa_nil))) (pe_and (pe_fn (ok_are_conditions E) (hr.mono (by decide)) (by rfl) (pa_cons (pe_fld (pv 0) rfl) pa_nil)) (pe_and (pe_fn (ok_is_int E) (hr.mono (by decide)) (by rfl) (pa_cons (pe_fld (pv 0) rfl) pa_nil)) (pe_one (pe_fn (ok_is_place_of E) (hr.mono (by decide)) (by rfl) (pa_cons (pe_fld (pv 0) rfl) (pa_cons (pv 1) pa_nil))))))))))), (FunD.bindsN F (fun _ _ _ _ _ _ us hl => match us, hl with | [_, _], _ => rfl)), E.g_is_move_of, F.kp⟩
theorem ok_is_goal_of {P : Program} {w : World} {K : PySem.W.Frag} {mg : Str → Option Value} {base : Heap} (E : Ctx w K mg) : DefOk P w K mg base "is_goal_of" [("value" : Str), ("places" : Str)] 4 (sp_is_goal_of w K) := by
  obtain ⟨fd, F⟩ := E.D_is_goal_of
  exact ⟨_, fd, fn_mk (t := t_is_goal_of P w K) F sc_is_goal_of (rd_is_goal_of E) (fun cdv A outer s H E0 hr => (pss_one (ps_ret (pe_and (pe_callB call_isi (by rfl) E.f_isinstance (by decide +kernel) (pa_cons (pv 0) (pa_cons (pe_glob (by rfl) E.g_Goal rfl) pa_nil))) (pe_and (pe_fn (ok_is_place_of E) (hr.mono (by decide)) (by rfl) (pa_cons (pe_fld (pv 0) rfl) (pa_cons (pv 1) pa_nil))) (pe_one (pe_fn (ok_are_conditions E) (hr.mono (by decide)) (by rfl) (pa_cons (pe_fld (pv 0) rfl) pa_nil)))))))), (FunD.bindsN F (fun _ _ _ _ _ _ us hl => match us, hl with | [_, _], _ => rfl)), E.g_is_goal_of, F.kp⟩
section
variable {P : Program} {w : World} {K : PySem.W.Frag} {mg : Str → Option Value} (E : Ctx w K mg)
include E
theorem rd_check_itemsM (vs : List V) (H : Hp) (Q : VK) (E0 : XK) (h : sp_check_itemsM w K vs H Q E0) : vs.length = 4 ∧ t_check_itemsM P w K { nx := fun _ H' => Q .non H', rt := Q } (start N_check_items vs) H := by
  obtain ⟨x, a, n, xs, ms, rfl, s, al, ok, q⟩ := h
  refine ⟨rfl, _, rfl, _, true, rfl, (s.elim (fun z => .lst z) fun z => .tup z), fun H1 e1 => ⟨true, rfl, _, rfl, a, xs, rfl, s.ex e1, fun J G W hG => ?_⟩⟩
  refine for_it W (fun i σ H' => (∃ y z, σ = [some x, some (.ref a), some (.int n), some (.ref (He.ga K "is_move_of")), y, z]) ∧ Ex H1 H') ⟨⟨none, none, rfl⟩, .refl _⟩ (fun i σ H' _ p => hG H' (.ex p.2)) ?_ (fun σ H' p => q H' (e1.trans p.2))
  rintro i y σ H2 H3 hi ⟨⟨u, v, rfl⟩, e2⟩ ⟨T, x1, x2, rfl, hT, rfl, q1, q2⟩
  obtain ⟨m, hm, im⟩ := al.get q2
  refine ⟨T, _, rfl, Evl.st_of upd_same, rfl, _, _, rfl, _, _, rfl, rfl, rfl, _, rfl, _, rfl, x2, m, n, rfl, im.ex ((e1.trans e2).trans (Ex.new hT)), ok m (List.mem_of_getElem? hm), fun H4 e4 => ⟨true, rfl, ⟨_, _, rfl⟩, (e2.trans (Ex.new hT)).trans e4⟩⟩
theorem rd_check_itemsG (vs : List V) (H : Hp) (Q : VK) (E0 : XK) (h : sp_check_itemsG w K vs H Q E0) : vs.length = 4 ∧ t_check_itemsG P w K { nx := fun _ H' => Q .non H', rt := Q } (start N_check_items vs) H := by
  obtain ⟨x, a, n, xs, ms, rfl, s, al, ok, q⟩ := h
  refine ⟨rfl, _, rfl, _, true, rfl, (s.elim (fun z => .lst z) fun z => .tup z), fun H1 e1 => ⟨true, rfl, _, rfl, a, xs, rfl, s.ex e1, fun J G W hG => ?_⟩⟩
  refine for_it W (fun i σ H' => (∃ y z, σ = [some x, some (.ref a), some (.int n), some (.ref (He.ga K "is_goal_of")), y, z]) ∧ Ex H1 H') ⟨⟨none, none, rfl⟩, .refl _⟩ (fun i σ H' _ p => hG H' (.ex p.2)) ?_ (fun σ H' p => q H' (e1.trans p.2))
  rintro i y σ H2 H3 hi ⟨⟨u, v, rfl⟩, e2⟩ ⟨T, x1, x2, rfl, hT, rfl, q1, q2⟩
  obtain ⟨m, hm, im⟩ := al.get q2
  refine ⟨T, _, rfl, Evl.st_of upd_same, rfl, _, _, rfl, _, _, rfl, rfl, rfl, _, rfl, _, rfl, x2, m, n, rfl, im.ex ((e1.trans e2).trans (Ex.new hT)), ok m (List.mem_of_getElem? hm), fun H4 e4 => ⟨true, rfl, ⟨_, _, rfl⟩, (e2.trans (Ex.new hT)).trans e4⟩⟩
end
theorem ok_check_itemsM {P : Program} {w : World} {K : PySem.W.Frag} {mg : Str → Option Value} {base : Heap} (E : Ctx w K mg) : DefOk P w K mg base "check_items" [("what" : Str), ("items" : Str), ("places" : Str), ("is_good" : Str)] 5 (sp_check_itemsM w K) := by
  obtain ⟨fd, F⟩ := E.D_check_items
  obtain ⟨fd2, F2, b2, k2⟩ := (ok_is_move_of (P := P) (base := base) E).at E.g_is_move_of
  exact ⟨_, fd, fn_mk (t := t_check_itemsM P w K) F sc_check_items (rd_check_itemsM E) (fun cdv A outer s H E0 hr => (pss_cons (ps_if (pt_not (pt_val (pe_fn (ok_is_row E) (hr.mono (by decide)) (by rfl) (pa_cons (pv 1) pa_nil))))
    (pss_one ps_never)
    pss_nil)
    (pss_one (ps_for PassesOwn.never rfl (pi_enumS (by rfl) E.f_enumerate (pa_cons (pv 1) pa_nil)) (pg_tup rfl (pgs_cons (pg_name (i := 4) sc_check_items.nd rfl (Or.inl rfl)) (pgs_cons (pg_name (i := 5) sc_check_items.nd rfl (Or.inl rfl)) pgs_nil)))
    (pss_one (ps_if (pt_not (pt_val (pe_callL (i := 3) F2 (hr.mono (by decide)) rfl (Or.inl rfl) k2 b2 .nil pass0 (pa_cons (pv 5) (pa_cons (pv 2) pa_nil)))))
    (pss_one ps_never)
    pss_nil)))))), (FunD.bindsN F (fun _ _ _ _ _ _ us hl => match us, hl with | [_, _, _, _], _ => rfl)), E.g_check_items, F.kp⟩
theorem ok_check_itemsG {P : Program} {w : World} {K : PySem.W.Frag} {mg : Str → Option Value} {base : Heap} (E : Ctx w K mg) : DefOk P w K mg base "check_items" [("what" : Str), ("items" : Str), ("places" : Str), ("is_good" : Str)] 5 (sp_check_itemsG w K) := by
  obtain ⟨fd, F⟩ := E.D_check_items
  obtain ⟨fd2, F2, b2, k2⟩ := (ok_is_goal_of (P := P) (base := base) E).at E.g_is_goal_of
  exact ⟨_, fd, fn_mk (t := t_check_itemsG P w K) F sc_check_items (rd_check_itemsG E) (fun cdv A outer s H E0 hr => (pss_cons (ps_if (pt_not (pt_val (pe_fn (ok_is_row E) (hr.mono (by decide)) (by rfl) (pa_cons (pv 1) pa_nil))))
    (pss_one ps_never)
    pss_nil)
    (pss_one (ps_for PassesOwn.never rfl (pi_enumS (by rfl) E.f_enumerate (pa_cons (pv 1) pa_nil)) (pg_tup rfl (pgs_cons (pg_name (i := 4) sc_check_items.nd rfl (Or.inl rfl)) (pgs_cons (pg_name (i := 5) sc_check_items.nd rfl (Or.inl rfl)) pgs_nil)))
    (pss_one (ps_if (pt_not (pt_val (pe_callL (i := 3) F2 (hr.mono (by decide)) rfl (Or.inl rfl) k2 b2 .nil pass0 (pa_cons (pv 5) (pa_cons (pv 2) pa_nil)))))
    (pss_one ps_never)
    pss_nil)))))), (FunD.bindsN F (fun _ _ _ _ _ _ us hl => match us, hl with | [_, _, _, _], _ => rfl)), E.g_check_items, F.kp⟩
end K28

set_option Elab.async false
set_option linter.all false
set_option maxRecDepth 100000
set_option maxHeartbeats 4000000
namespace K28
open PySem PySem.Spec PyProof.Rows L2
open Evl (Ex)

/-! ## what the conditions say -/
def Cd.ho : Cd → Int → Bool
  | .le k, n => decide (k ≤ n)
  | .mo k, n => decide (n ≤ k)
  | .eq k, n => decide (n = k)
  | .ne k, n => !decide (n = k)
  | .rs m r, n => decide (n % m = r)
def hoAll (cs : List Cd) (n : Int) : Bool := cs.all fun c => c.ho n
def Mv.at (m : Mv) (p : Nat) (n : Int) : Bool := decide (m.place = p) && hoAll m.cds n
def Gw.at (g : Gw) (p : Nat) (n : Int) : Bool := decide (g.place = p) && hoAll g.cds n
def Bk.mvAt (B : Bk) (p : Nat) (n : Int) (i : Nat) : Bool := match B.moves[i]? with
  | some m => m.at p n
  | none => false
def Bk.opn (B : Bk) (p : Nat) (n : Int) : List Nat := (List.range B.moves.length).filter (B.mvAt p n)
def Bk.goal (B : Bk) (p : Nat) (n : Int) : Bool := B.goals.any fun g => g.at p n
/-- an open move: its index, its shift, its target -/
def optOf (B : Bk) (i : Nat) : Nat × Int × Nat := match B.moves[i]? with
  | some m => (i, m.shift, m.target)
  | none => (i, 0, 0)
def Bk.opts (B : Bk) (p : Nat) (n : Int) : List (Nat × Int × Nat) := (B.opn p n).map (optOf B)
def optD (o : Nat × Int × Nat) : PyData := .tuple [.int o.1, .int o.2.1, .int o.2.2]
/-- what options(book, place, n) gives, its list at an address in A -/
def OptV (K : PySem.W.Frag) (A : Addr → Prop) (H : Hp) (v : V) (B : Bk) (p : Nat) (n : Int) : Prop :=
  if B.goal p n = true then v = .non else ∃ l ts, v = .ref l ∧ A l ∧ H l = some (.lst ts) ∧ DtAll K H ts ((B.opts p n).map optD)
theorem OptV.frm {K : PySem.W.Frag} {A S : Addr → Prop} {H H' : Hp} (e : Frm S H H') (t : TupK K H H') (n : ∀ a, A a → ¬ S a) {v : V} {B : Bk} {p : Nat} {i : Int} (h : OptV K A H v B p i) : OptV K A H' v B p i := by
  unfold OptV at h ⊢
  by_cases g : B.goal p i = true
  · rw [if_pos g] at h ⊢
    exact h
  · rw [if_neg g] at h ⊢
    obtain ⟨l, ts, e1, e2, e3, e4⟩ := h
    exact ⟨l, ts, e1, e2, e l _ (n l e2) e3, e4.tk t⟩
theorem OptV.mono {K : PySem.W.Frag} {A A' : Addr → Prop} {H : Hp} (n : ∀ a, A a → A' a) {v : V} {B : Bk} {p : Nat} {i : Int} (h : OptV K A H v B p i) : OptV K A' H v B p i := by
  unfold OptV at h ⊢
  by_cases g : B.goal p i = true
  · rw [if_pos g] at h ⊢
    exact h
  · rw [if_neg g] at h ⊢
    obtain ⟨l, ts, e1, e2, e3, e4⟩ := h
    exact ⟨l, ts, e1, n l e2, e3, e4⟩
theorem fm_filter {α β : Type} {f : α → Option β} {c : α → Bool} {g : α → β} : ∀ {l : List α}, (∀ i ∈ l, f i = if c i = true then some (g i) else none) → l.filterMap f = (l.filter c).map g
  | [], _ => rfl
  | a :: l, h => by
    have ih := fm_filter (l := l) fun i hi => h i (List.mem_cons_of_mem _ hi)
    have h0 := h a List.mem_cons_self
    by_cases q : c a = true
    · rw [if_pos q] at h0
      rw [List.filterMap_cons_some h0, List.filter_cons_of_pos q, List.map_cons, ih]
    · rw [if_neg q] at h0
      rw [List.filterMap_cons_none h0, List.filter_cons_of_neg q, ih]
theorem fm_map {α β : Type} {f : α → Option β} {g : α → β} {l : List α} (h : ∀ i ∈ l, f i = some (g i)) : l.filterMap f = l.map g := by
  rw [fm_filter (c := fun _ => true) (g := g) (fun i hi => by rw [if_pos rfl]; exact h i hi), List.filter_eq_self.mpr fun _ _ => rfl]
def atB {α : Type} (l : List α) (f : α → Bool) (i : Nat) : Bool := match l[i]? with
  | some z => f z
  | none => true
theorem atB_of {α : Type} {l : List α} {f : α → Bool} {i : Nat} {z : α} (h : l[i]? = some z) : atB l f i = f z := by
  unfold atB
  rw [h]
theorem map_atB {α : Type} (l : List α) (f : α → Bool) : (List.range l.length).map (atB l f) = l.map f := by
  refine List.ext_getElem? fun i => ?_
  rw [List.getElem?_map, List.getElem?_map]
  by_cases hi : i < l.length
  · rw [List.getElem?_range hi, List.getElem?_eq_getElem hi]
    exact congrArg some (atB_of (List.getElem?_eq_getElem hi))
  · rw [List.getElem?_eq_none (by simpa using hi), List.getElem?_eq_none (by omega)]
    rfl
/-! ## the promises -/
def sp_check_int (w : World) (K : PySem.W.Frag) : Sp := fun vs H Q _ => ∃ (x : V) (i : Int), vs = [x, .int i] ∧ Q .non H
def sp_check_place (w : World) (K : PySem.W.Frag) : Sp := fun vs H Q _ => ∃ (b : V) (B : Bk) (p : Nat), vs = [b, .int p] ∧ IsBk K H b B ∧ p < B.sides.length ∧ Q .non H
def sp_check_state (w : World) (K : PySem.W.Frag) : Sp := fun vs H Q _ => ∃ (b : V) (B : Bk) (p : Nat) (n : Int), vs = [b, .int p, .int n] ∧ IsBk K H b B ∧ p < B.sides.length ∧ Q .non H
def sp_is_held (w : World) (K : PySem.W.Frag) : Sp := fun vs H Q _ => ∃ (v : V) (c : Cd) (n : Int), vs = [v, .int n] ∧ Dt K H v c.d ∧ c.Ok ∧ Q (.bl (c.ho n)) H
def sp_holds (w : World) (K : PySem.W.Frag) : Sp := fun vs H Q _ => ∃ (v : V) (c : List Cd) (n : Int), vs = [v, .int n] ∧ Dt K H v (cdsD c) ∧ CdsOk c ∧ ∀ H', Ex H H' → Q (.bl (hoAll c n)) H'
def sp_moves_at (w : World) (K : PySem.W.Frag) : Sp := fun vs H Q _ => ∃ (b : V) (B : Bk) (p : Nat) (n : Int), vs = [b, .int p, .int n] ∧ IsBk K H b B ∧ B.Ok ∧ ∀ H' a, Ex H H' → SqT K H' a ((B.opn p n).map fun i : Nat => V.int i) → Q (.ref a) H'
def sp_is_goal (w : World) (K : PySem.W.Frag) : Sp := fun vs H Q _ => ∃ (b : V) (B : Bk) (p : Nat) (n : Int), vs = [b, .int p, .int n] ∧ IsBk K H b B ∧ B.Ok ∧ p < B.sides.length ∧ ∀ H', Ex H H' → Q (.bl (B.goal p n)) H'
def sp_options (w : World) (K : PySem.W.Frag) : Sp := fun vs H Q _ => ∃ (b : V) (B : Bk) (p : Nat) (n : Int), vs = [b, .int p, .int n] ∧ IsBk K H b B ∧ B.Ok ∧ p < B.sides.length ∧ ∀ H' v, Ex H H' → OptV K (fun a => H a = none) H' v B p n → Q v H'
def N_check_int : List Str := ["what", "value"]
theorem sc_check_int : FnScope N_check_int ["what", "value"] (defScope s_check_int) := ⟨rfl, rfl, rfl, by decide +kernel, rfl, by decide +kernel, by decide +kernel⟩
/-- names: 0 what 1 value -/
def t_check_int (P : Program) (w : World) (K : PySem.W.Frag) : TS :=
    (tIfS (tNot (tB (tFn (sp_is_int w K) (tCons (tVar 1) tNil))))
    tNever
    tNext)
def N_check_place : List Str := ["book", "value"]
theorem sc_check_place : FnScope N_check_place ["book", "value"] (defScope s_check_place) := ⟨rfl, rfl, rfl, by decide +kernel, rfl, by decide +kernel, by decide +kernel⟩
/-- names: 0 book 1 value -/
def t_check_place (P : Program) (w : World) (K : PySem.W.Frag) : TS :=
    (tIfS (tOr (tNot (tB (tFn (sp_is_int w K) (tCons (tVar 1) tNil)))) (tNot (tTest (tChain rLeI rLtI (tC (.int 0)) (tVar 1) (tFld K (tVar 0) ("places" : Str))))))
    tNever
    tNext)
def N_check_state : List Str := ["book", "place", "count"]
theorem sc_check_state : FnScope N_check_state ["book", "place", "count"] (defScope s_check_state) := ⟨rfl, rfl, rfl, by decide +kernel, rfl, by decide +kernel, by decide +kernel⟩
/-- names: 0 book 1 place 2 count -/
def t_check_state (P : Program) (w : World) (K : PySem.W.Frag) : TS :=
    (tSeq (tDrop (tFn (sp_check_place w K) (tCons (tVar 0) (tCons (tVar 1) tNil))))
    (tDrop (tFn (sp_check_int w K) (tCons (tC (.str "count")) (tCons (tVar 2) tNil)))))
def N_is_held : List Str := ["condition", "count", "word"]
theorem sc_is_held : FnScope N_is_held ["condition", "count"] (defScope s_is_held) := ⟨rfl, rfl, rfl, by decide +kernel, rfl, by decide +kernel, by decide +kernel⟩
/-- names: 0 condition 1 count 2 word -/
def t_is_held (P : Program) (w : World) (K : PySem.W.Frag) : TS :=
    (tSeq (tAsg (tOp (rIxT K) (tVar 0) (tC (.int 0))) (gName 2))
    (tSeq (tIfS (tTest (tOp rEq (tVar 2) (tC (.str "rest"))))
    (tRet (tOp rEq (tOp rModI (tVar 1) (tOp (rIxT K) (tVar 0) (tC (.int 1)))) (tOp (rIxT K) (tVar 0) (tC (.int 2)))))
    tNext)
    (tSeq (tIfS (tTest (tOp rEq (tVar 2) (tC (.str "least"))))
    (tRet (tOp rGeI (tVar 1) (tOp (rIxT K) (tVar 0) (tC (.int 1)))))
    tNext)
    (tSeq (tIfS (tTest (tOp rEq (tVar 2) (tC (.str "most"))))
    (tRet (tOp rLeI (tVar 1) (tOp (rIxT K) (tVar 0) (tC (.int 1)))))
    tNext)
    (tRet (tOp rEq (tOp rEq (tVar 1) (tOp (rIxT K) (tVar 0) (tC (.int 1)))) (tOp rEq (tVar 2) (tC (.str "is")))))))))
def N_holds : List Str := ["conditions", "n", "condition"]
theorem sc_holds : FnScope N_holds ["conditions", "n"] (defScope s_holds) := ⟨rfl, rfl, rfl, by decide +kernel, rfl, by decide +kernel, by decide +kernel⟩
/-- names: 0 conditions 1 n* 2 condition -/
def t_holds (P : Program) (w : World) (K : PySem.W.Frag) : TS :=
    (tSeq (tDrop (tFn (sp_check_int w K) (tCons (tC (.str "count")) (tCons (tVar 1) tNil))))
    (tRet (tCB (rAll K) (tCons (tLc (iTup K (tVar 0)) (gName 2) tYes (tFn (sp_is_held w K) (tCons (tVar 2) (tCons (tVar 1) tNil))) [2]) tNil))))
def N_moves_at : List Str := ["book", "place", "count", "index", "move"]
theorem sc_moves_at : FnScope N_moves_at ["book", "place", "count"] (defScope s_moves_at) := ⟨rfl, rfl, rfl, by decide +kernel, rfl, by decide +kernel, by decide +kernel⟩
/-- names: 0 book 1 place* 2 count* 3 index 4 move -/
def t_moves_at (P : Program) (w : World) (K : PySem.W.Frag) : TS :=
    (tRet (tCB (rTupQ K) (tCons (tLc (iEnumS K (tCons (tFld K (tVar 0) ("moves" : Str)) tNil)) (gTup K 2 (gCons (gName 3) (gCons (gName 4) gNil))) (tAnd (tTest (tOp rEq (tFld K (tVar 4) ("place" : Str)) (tVar 1))) (tB (tFn (sp_holds w K) (tCons (tFld K (tVar 4) ("conditions" : Str)) (tCons (tVar 2) tNil))))) (tVar 3) [3, 4]) tNil)))
def N_is_goal : List Str := ["book", "place", "n", "goal"]
theorem sc_is_goal : FnScope N_is_goal ["book", "place", "n"] (defScope s_is_goal) := ⟨rfl, rfl, rfl, by decide +kernel, rfl, by decide +kernel, by decide +kernel⟩
/-- names: 0 book 1 place* 2 n* 3 goal -/
def t_is_goal (P : Program) (w : World) (K : PySem.W.Frag) : TS :=
    (tSeq (tDrop (tFn (sp_check_state w K) (tCons (tVar 0) (tCons (tVar 1) (tCons (tVar 2) tNil)))))
    (tRet (tCB (rAny K) (tCons (tLc (iTup K (tFld K (tVar 0) ("goals" : Str))) (gName 3) tYes (tAndV (tOp rEq (tFld K (tVar 3) ("place" : Str)) (tVar 1)) (tFn (sp_holds w K) (tCons (tFld K (tVar 3) ("conditions" : Str)) (tCons (tVar 2) tNil)))) [3]) tNil))))
def N_options : List Str := ["book", "place", "count", "index"]
theorem sc_options : FnScope N_options ["book", "place", "count"] (defScope s_options) := ⟨rfl, rfl, rfl, by decide +kernel, rfl, by decide +kernel, by decide +kernel⟩
/-- names: 0 book* 1 place 2 count 3 index -/
def t_options (P : Program) (w : World) (K : PySem.W.Frag) : TS :=
    (tSeq (tIfS (tB (tFn (sp_is_goal w K) (tCons (tVar 0) (tCons (tVar 1) (tCons (tVar 2) tNil)))))
    (tRet (tC .non))
    tNext)
    (tRet (tLc (iTup K (tFn (sp_moves_at w K) (tCons (tVar 0) (tCons (tVar 1) (tCons (tVar 2) tNil))))) (gName 3) tYes (tTup (tCons (tVar 3) (tCons (tFld K (tOp (rIxT K) (tFld K (tVar 0) ("moves" : Str)) (tVar 3)) ("shift" : Str)) (tCons (tFld K (tOp (rIxT K) (tFld K (tVar 0) ("moves" : Str)) (tVar 3)) ("target" : Str)) tNil)))) [3])))
section
variable {P : Program} {w : World} {K : PySem.W.Frag} {mg : Str → Option Value} (E : Ctx w K mg)
include E
theorem rd_check_int (vs : List V) (H : Hp) (Q : VK) (E0 : XK) (h : sp_check_int w K vs H Q E0) : vs.length = 2 ∧ t_check_int P w K { nx := fun _ H' => Q .non H', rt := Q } (start N_check_int vs) H := by
  obtain ⟨x, i, rfl, q⟩ := h
  exact ⟨rfl, _, rfl, _, true, rfl, .int i, true, rfl, q⟩
theorem rd_check_place (vs : List V) (H : Hp) (Q : VK) (E0 : XK) (h : sp_check_place w K vs H Q E0) : vs.length = 2 ∧ t_check_place P w K { nx := fun _ H' => Q .non H', rt := Q } (start N_check_place vs) H := by
  obtain ⟨b, B, p, rfl, ⟨a, dx, sa, ma, ga, ms, gs, rfl, hb, _⟩, hp, q⟩ := h
  have h0 : (0 : Int) ≤ (p : Nat) := by omega
  have h1 : ((p : Nat) : Int) < (B.sides.length : Nat) := by omega
  refine ⟨rfl, _, rfl, _, true, rfl, .int _, true, rfl, _, rfl, 0, _, rfl, rfl, true, bt h0, ?_⟩
  exact ⟨_, rfl, a, _, dx, _, _, rfl, hb, E.cls_Book, E.na_Book_places, rfl, _, _, rfl, rfl, true, bt h1, q⟩
theorem rd_check_state (vs : List V) (H : Hp) (Q : VK) (E0 : XK) (h : sp_check_state w K vs H Q E0) : vs.length = 3 ∧ t_check_state P w K { nx := fun _ H' => Q .non H', rt := Q } (start N_check_state vs) H := by
  obtain ⟨b, B, p, n, rfl, hb, hp, q⟩ := h
  exact ⟨rfl, _, rfl, _, rfl, b, B, p, rfl, hb, hp, _, rfl, _, n, rfl, q⟩
end
theorem ok_check_int {P : Program} {w : World} {K : PySem.W.Frag} {mg : Str → Option Value} {base : Heap} (E : Ctx w K mg) : DefOk P w K mg base "check_int" [("what" : Str), ("value" : Str)] 2 (sp_check_int w K) := by
  obtain ⟨fd, F⟩ := E.D_check_int
  exact ⟨_, fd, fn_mk (t := t_check_int P w K) F sc_check_int (rd_check_int E) (fun cdv A outer s H E0 hr => (pss_one (ps_if (pt_not (pt_val (pe_fn (ok_is_int E) (hr.mono (by decide)) (by rfl) (pa_cons (pv 1) pa_nil))))
    (pss_one ps_never)
    pss_nil))), (FunD.bindsN F (fun _ _ _ _ _ _ us hl => match us, hl with | [_, _], _ => rfl)), E.g_check_int, F.kp⟩
theorem ok_check_place {P : Program} {w : World} {K : PySem.W.Frag} {mg : Str → Option Value} {base : Heap} (E : Ctx w K mg) : DefOk P w K mg base "check_place" [("book" : Str), ("value" : Str)] 2 (sp_check_place w K) := by
  obtain ⟨fd, F⟩ := E.D_check_place
  exact ⟨_, fd, fn_mk (t := t_check_place P w K) F sc_check_place (rd_check_place E) (fun cdv A outer s H E0 hr => (pss_one (ps_if (PW.pt (pw_or (pt_not (pt_val (pe_fn (ok_is_int E) (hr.mono (by decide)) (by rfl) (pa_cons (pv 1) pa_nil)))) (pw_or1 (pt_not (pt_chain op_le op_lt pe_int (pv 1) (pe_fld (pv 0) rfl))))))
    (pss_one ps_never)
    pss_nil))), (FunD.bindsN F (fun _ _ _ _ _ _ us hl => match us, hl with | [_, _], _ => rfl)), E.g_check_place, F.kp⟩
theorem ok_check_state {P : Program} {w : World} {K : PySem.W.Frag} {mg : Str → Option Value} {base : Heap} (E : Ctx w K mg) : DefOk P w K mg base "check_state" [("book" : Str), ("place" : Str), ("count" : Str)] 3 (sp_check_state w K) := by
  obtain ⟨fd, F⟩ := E.D_check_state
  exact ⟨_, fd, fn_mk (t := t_check_state P w K) F sc_check_state (rd_check_state E) (fun cdv A outer s H E0 hr => (pss_cons (ps_expr (pe_fn (ok_check_place E) (hr.mono (by decide)) (by rfl) (pa_cons (pv 0) (pa_cons (pv 1) pa_nil))))
    (pss_one (ps_expr (pe_fn (ok_check_int E) (hr.mono (by decide)) (by rfl) (pa_cons pe_str (pa_cons (pv 2) pa_nil))))))), (FunD.bindsN F (fun _ _ _ _ _ _ us hl => match us, hl with | [_, _, _], _ => rfl)), E.g_check_state, F.kp⟩
theorem eqI (a b : Int) : decide (V.int a = V.int b) = decide (a = b) := decide_eq_decide.mpr ⟨fun z => by cases z; rfl, fun z => by rw [z]⟩
theorem eqS (a b : Str) : decide (V.str a = V.str b) = decide (a = b) := decide_eq_decide.mpr ⟨fun z => by cases z; rfl, fun z => by rw [z]⟩
theorem eqB (a b : Bool) : decide (V.bl a = V.bl b) = decide (a = b) := decide_eq_decide.mpr ⟨fun z => by cases z; rfl, fun z => by rw [z]⟩
section
variable {P : Program} {w : World} {K : PySem.W.Frag} {mg : Str → Option Value} (E : Ctx w K mg)
include E
theorem rd_is_held (vs : List V) (H : Hp) (Q : VK) (E0 : XK) (h : sp_is_held w K vs H Q E0) : vs.length = 2 ∧ t_is_held P w K { nx := fun _ H' => Q .non H', rt := Q } (start N_is_held vs) H := by
  obtain ⟨v, c, n, rfl, d, ok, q⟩ := h
  obtain ⟨a, xs, rfl, s, t⟩ := d.tupD
  refine ⟨rfl, _, rfl, ?_⟩
  cases c with
  | rs m r =>
    obtain ⟨u, v, z, rfl, d1, d2, d3⟩ := t.three
    rw [d1.strD, d2.intD, d3.intD] at s
    obtain ⟨o1, o2, o3, o4⟩ := ok
    refine ⟨a, _, 0, _, rfl, rfl, s, rfl, _, rfl, rfl, true, rfl, _, rfl, _, rfl, a, _, 1, _, rfl, rfl, s, rfl, n, m, rfl, rfl, (by omega), _, rfl, a, _, 2, _, rfl, rfl, s, rfl, rfl, ?_⟩
    rw [eqI]
    exact q
  | le k =>
    obtain ⟨u, v, rfl, d1, d2⟩ := t.two
    rw [d1.strD, d2.intD] at s
    exact ⟨a, _, 0, _, rfl, rfl, s, rfl, _, rfl, rfl, false, rfl, _, rfl, rfl, true, rfl, _, rfl, _, rfl, a, _, 1, _, rfl, rfl, s, rfl, n, k, rfl, rfl, q⟩
  | mo k =>
    obtain ⟨u, v, rfl, d1, d2⟩ := t.two
    rw [d1.strD, d2.intD] at s
    exact ⟨a, _, 0, _, rfl, rfl, s, rfl, _, rfl, rfl, false, rfl, _, rfl, rfl, false, rfl, _, rfl, rfl, true, rfl, _, rfl, _, rfl, a, _, 1, _, rfl, rfl, s, rfl, n, k, rfl, rfl, q⟩
  | eq k =>
    obtain ⟨u, v, rfl, d1, d2⟩ := t.two
    rw [d1.strD, d2.intD] at s
    refine ⟨a, _, 0, _, rfl, rfl, s, rfl, _, rfl, rfl, false, rfl, _, rfl, rfl, false, rfl, _, rfl, rfl, false, rfl, _, rfl, _, rfl, a, _, 1, _, rfl, rfl, s, rfl, rfl, _, rfl, rfl, rfl, ?_⟩
    rw [eqI, eqB]
    have e : decide (decide (n = k) = decide (V.str "is" = V.str "is")) = decide (n = k) := by
      have e2 : decide (V.str "is" = V.str "is") = true := rfl
      rw [e2]
      cases decide (n = k) <;> rfl
    show Q (.bl (decide (decide (n = k) = decide (V.str "is" = V.str "is")))) H
    rw [e]
    exact q
  | ne k =>
    obtain ⟨u, v, rfl, d1, d2⟩ := t.two
    rw [d1.strD, d2.intD] at s
    refine ⟨a, _, 0, _, rfl, rfl, s, rfl, _, rfl, rfl, false, rfl, _, rfl, rfl, false, rfl, _, rfl, rfl, false, rfl, _, rfl, _, rfl, a, _, 1, _, rfl, rfl, s, rfl, rfl, _, rfl, rfl, rfl, ?_⟩
    rw [eqI, eqB]
    have e : decide (decide (n = k) = decide (V.str "not" = V.str "is")) = !decide (n = k) := by
      have e2 : decide (V.str "not" = V.str "is") = false := rfl
      rw [e2]
      cases decide (n = k) <;> rfl
    show Q (.bl (decide (decide (n = k) = decide (V.str "not" = V.str "is")))) H
    rw [e]
    exact q
end
theorem ok_is_held {P : Program} {w : World} {K : PySem.W.Frag} {mg : Str → Option Value} {base : Heap} (E : Ctx w K mg) : DefOk P w K mg base "is_held" [("condition" : Str), ("count" : Str)] 1 (sp_is_held w K) := by
  obtain ⟨fd, F⟩ := E.D_is_held
  exact ⟨_, fd, fn_mk (t := t_is_held P w K) F sc_is_held (rd_is_held E) (fun cdv A outer s H E0 hr => (pss_cons (ps_set (i := 2) sc_is_held.nd rfl (Or.inl rfl) (pe_ix ix_tup (pv 0) pe_int (fun _ _ => rfl)))
    (pss_cons (ps_if (pt_cmpR op_eq (pv 2) pe_str (nomark _))
    (pss_one (ps_ret (pe_cmpR op_eq (pe_op op_mod (pv 1) (pe_ix ix_tup (pv 0) pe_int (fun _ _ => rfl))) (pe_ix ix_tup (pv 0) pe_int (fun _ _ => rfl)) (nomark _))))
    pss_nil)
    (pss_cons (ps_if (pt_cmpR op_eq (pv 2) pe_str (nomark _))
    (pss_one (ps_ret (pe_cmpR op_ge (pv 1) (pe_ix ix_tup (pv 0) pe_int (fun _ _ => rfl)) (nomark _))))
    pss_nil)
    (pss_cons (ps_if (pt_cmpR op_eq (pv 2) pe_str (nomark _))
    (pss_one (ps_ret (pe_cmpR op_le (pv 1) (pe_ix ix_tup (pv 0) pe_int (fun _ _ => rfl)) (nomark _))))
    pss_nil)
    (pss_one (ps_ret (pe_cmpR op_eq (pe_cmpR op_eq (pv 1) (pe_ix ix_tup (pv 0) pe_int (fun _ _ => rfl)) (nomark _)) (pe_cmpR op_eq (pv 2) pe_str (nomark _)) (nomark _))))))))), (FunD.bindsN F (fun _ _ _ _ _ _ us hl => match us, hl with | [_, _], _ => rfl)), E.g_is_held, F.kp⟩
section
variable {P : Program} {w : World} {K : PySem.W.Frag} {mg : Str → Option Value} (E : Ctx w K mg)
include E
theorem rd_holds (vs : List V) (H : Hp) (Q : VK) (E0 : XK) (h : sp_holds w K vs H Q E0) : vs.length = 2 ∧ t_holds P w K { nx := fun _ H' => Q .non H', rt := Q } (start N_holds vs) H := by
  obtain ⟨v, c, n, rfl, d, ⟨ok1, ok2⟩, q⟩ := h
  obtain ⟨a, xs, rfl, s, t⟩ := d.tupD
  have len : xs.length = c.length := by rw [t.1, List.length_map]
  refine ⟨rfl, _, rfl, _, n, rfl, _, rfl, a, rfl, ⟨xs, s⟩, fun D hD => ?_⟩
  refine lc_filt hD (walk_tup (xs := xs)) (by omega) (fun i => some (.bl (atB c (fun z => z.ho n) i))) (fun H' e => Evl.ex_t e s) ?_ ?_
  · rintro i x H' H'' k k0 hi e ⟨rfl, hx⟩ kk kk0
    have hc0 : c[i]? = some (c[i]'(by omega)) := List.getElem?_eq_getElem (by omega)
    have hc : (c.map Cd.d)[i]? = some (c[i]'(by omega)).d := by rw [List.getElem?_map, hc0]; rfl
    exact ⟨rfl, _, rfl, _, rfl, x, c[i]'(by omega), n, rfl, (t.2 i x _ hx hc).tk (.ex e), ok2 _ (List.getElem_mem _), kk _ _ (by rw [atB_of hc0]) (.refl _)⟩
  · intro H' e hl
    rw [fm_map (g := fun i => V.bl (atB c (fun z => z.ho n) i)) (fun i _ => rfl)] at hl
    refine ⟨D, (List.range xs.length).map (atB c fun z => z.ho n), rfl, .inl (.inl ?_), ?_⟩
    · rw [hl, List.map_map]
      rfl
    · rw [len, map_atB]
      have e3 : (c.map fun z => z.ho n).all id = hoAll c n := by
        unfold hoAll
        rw [List.all_map]
        rfl
      rw [e3]
      exact q H' e
end
theorem ok_holds {P : Program} {w : World} {K : PySem.W.Frag} {mg : Str → Option Value} {base : Heap} (E : Ctx w K mg) : DefOk P w K mg base "holds" [("conditions" : Str), ("n" : Str)] 3 (sp_holds w K) := by
  obtain ⟨fd, F⟩ := E.D_holds
  exact ⟨_, fd, fn_mk (t := t_holds P w K) F sc_holds (rd_holds E) (fun cdv A outer s H E0 hr => (pss_cons (ps_expr (pe_fn (ok_check_int E) (hr.mono (by decide)) (by rfl) (pa_cons pe_str (pa_cons (pv 1) pa_nil))))
    (pss_one (ps_ret (pe_callB (cr_all rfl) (by rfl) E.f_all (by decide +kernel) (pa_cons (pe_lc (own := [("condition", 2)]) (wi := (iTup K (tVar 0))) (g := (gName 2)) (tt := tYes) (te := (tFn (sp_is_held w K) (tCons (tVar 2) (tCons (tVar 1) tNil)))) rfl sc_holds.nd (pi_tup (pv 0)) (blkOk_by (own := [("condition", 2)]) (N := N_holds) (sc := defScope s_holds) (by decide +kernel)) (fun _ _ _ _ _ => (pg_name (i := 2) sc_holds.nd rfl (Or.inl rfl))) (fun _ _ _ _ _ => pts_nil) (fun _ _ _ _ _ => (pe_fn (ok_is_held E) (hr.mono (by decide)) (by rfl) (pa_cons (pv 2) (pa_cons (pv 1) pa_nil))))) pa_nil)))))), (FunD.bindsN F (fun _ _ _ _ _ _ us hl => match us, hl with | [_, _], _ => rfl)), E.g_holds, F.kp⟩
section
variable {P : Program} {w : World} {K : PySem.W.Frag} {mg : Str → Option Value} (E : Ctx w K mg)
include E
theorem rd_moves_at (vs : List V) (H : Hp) (Q : VK) (E0 : XK) (h : sp_moves_at w K vs H Q E0) : vs.length = 3 ∧ t_moves_at P w K { nx := fun _ H' => Q .non H', rt := Q } (start N_moves_at vs) H := by
  obtain ⟨b, B, p, n, rfl, ⟨a, dx, sa, ma, ga, ms, gs, rfl, hb, h1, h2, h3, h4, h5⟩, ok, q⟩ := h
  refine ⟨rfl, _, rfl, a, _, dx, _, _, rfl, hb, E.cls_Book, E.na_Book_moves, rfl, ma, ms, rfl, .inr h2, fun J G W hG D hD => ?_⟩
  have len := h4.1
  have okl := ok.m1
  refine lc_filt hD W (by omega) (fun i => if B.mvAt p n i = true then some (.int (i : Nat)) else none) (fun H' e => hG H' (.ex e)) ?_ ?_
  · rintro i y H2 H3 k k0 hi e ⟨T, x1, x2, rfl, hT, rfl, q1, q2⟩ kk kk0
    cases q1
    obtain ⟨m, hm, am, adx, cv, rfl, hma, hcv⟩ := h4.get q2
    have e3 : Ex H2 (upd H2 T (.tup [.int (i : Nat), .ref am])) := Ex.new hT
    refine ⟨T, _, rfl, Evl.st_of upd_same, rfl, _, _, rfl, _, _, rfl, rfl, rfl, _, rfl, am, _, adx, _, _, rfl, (e.trans e3) _ _ hma, E.cls_Move, E.na_Move_place, rfl, _, rfl, rfl, _, rfl, ?_⟩
    have mv : B.mvAt p n i = m.at p n := by unfold Bk.mvAt; rw [hm]
    rw [eqI]
    refine ite2 (fun hp => ?_) fun hp => ?_
    · refine ⟨_, rfl, am, _, adx, _, _, rfl, (e.trans e3) _ _ hma, E.cls_Move, E.na_Move_conditions, rfl, _, rfl, _, m.cds, n, rfl, hcv.tk (.ex (e.trans e3)), (ok.m m (List.mem_of_getElem? hm)).c, fun H4 e4 => ⟨_, rfl, ?_⟩⟩
      refine ite2 (fun hq => ?_) fun hq => ?_
      · refine ⟨_, rfl, kk _ H4 ?_ (e3.trans e4)⟩
        rw [mv]
        unfold Mv.at
        rw [if_pos]
        have hp2 : m.place = p := by exact Int.ofNat.inj (of_decide_eq_true hp)
        simp [hp2, hq]
      · refine kk0 ?_ H4 (e3.trans e4)
        rw [mv]
        unfold Mv.at
        rw [if_neg]
        simp [hq]
    · refine kk0 ?_ _ e3
      rw [mv]
      unfold Mv.at
      rw [if_neg]
      have hp2 : ¬ m.place = p := by
        intro z
        apply hp
        rw [z]
        simp
      simp [hp2]
  · intro H' e hl
    rw [fm_filter (c := B.mvAt p n) (g := fun i : Nat => V.int i) (fun i _ => rfl), len] at hl
    exact ⟨D, _, rfl, .inl (Evl.sq_of hl), fun b H3 e3 s3 => q H3 b (e.trans e3) s3⟩
theorem rd_is_goal (vs : List V) (H : Hp) (Q : VK) (E0 : XK) (h : sp_is_goal w K vs H Q E0) : vs.length = 3 ∧ t_is_goal P w K { nx := fun _ H' => Q .non H', rt := Q } (start N_is_goal vs) H := by
  obtain ⟨b, B, p, n, rfl, hB, ok, hp, q⟩ := h
  refine ⟨rfl, _, rfl, _, rfl, _, rfl, b, B, p, n, rfl, hB, hp, ?_⟩
  obtain ⟨a, dx, sa, ma, ga, ms, gs, rfl, hb, h1, h2, h3, h4, h5⟩ := hB
  have len := h5.1
  have okl := ok.g1
  refine ⟨_, rfl, a, _, dx, _, _, rfl, hb, E.cls_Book, E.na_Book_goals, rfl, ga, rfl, ⟨gs, h3⟩, fun D hD => ?_⟩
  refine lc_filt hD (walk_tup (xs := gs)) (by omega) (fun i => some (.bl (atB B.goals (fun g => g.at p n) i))) (fun H' e => Evl.ex_t e h3) ?_ ?_
  · rintro i x H2 H3 k k0 hi e ⟨rfl, hx⟩ kk kk0
    obtain ⟨g, hg, am, adx, cv, rfl, hma, hcv⟩ := h5.get hx
    refine ⟨rfl, _, rfl, am, _, adx, _, _, rfl, e _ _ hma, E.cls_Goal, E.na_Goal_place, rfl, _, rfl, rfl, _, rfl, ?_⟩
    rw [eqI]
    refine ite2 (fun hp => ?_) fun hp => ?_
    · refine ⟨_, rfl, am, _, adx, _, _, rfl, e _ _ hma, E.cls_Goal, E.na_Goal_conditions, rfl, _, rfl, _, g.cds, n, rfl, hcv.tk (.ex e), (ok.g g (List.mem_of_getElem? hg)).c, fun H4 e4 => kk _ H4 ?_ e4⟩
      rw [atB_of hg]
      unfold Gw.at
      have hp2 : g.place = p := by exact Int.ofNat.inj (of_decide_eq_true hp)
      simp [hp2]
    · refine kk _ _ ?_ (.refl _)
      rw [atB_of hg]
      unfold Gw.at
      have hp2 : ¬ g.place = p := by
        intro z
        apply hp
        rw [z]
        simp
      simp [hp2]
  · intro H' e hl
    rw [fm_map (g := fun i => V.bl (atB B.goals (fun g => g.at p n) i)) (fun i _ => rfl)] at hl
    refine ⟨D, (List.range gs.length).map (atB B.goals fun g => g.at p n), rfl, .inl (.inl ?_), ?_⟩
    · rw [hl, List.map_map]
      rfl
    · rw [len, map_atB]
      have e3 : (B.goals.map fun g => g.at p n).any id = B.goal p n := by
        unfold Bk.goal
        rw [List.any_map]
        rfl
      rw [e3]
      exact q H' e
end
theorem ok_moves_at {P : Program} {w : World} {K : PySem.W.Frag} {mg : Str → Option Value} {base : Heap} (E : Ctx w K mg) : DefOk P w K mg base "moves_at" [("book" : Str), ("place" : Str), ("count" : Str)] 4 (sp_moves_at w K) := by
  obtain ⟨fd, F⟩ := E.D_moves_at
  exact ⟨_, fd, fn_mk (t := t_moves_at P w K) F sc_moves_at (rd_moves_at E) (fun cdv A outer s H E0 hr => (pss_one (ps_ret (pe_callTy call_tuple_q (by rfl) E.f_tuple (by decide +kernel) (pa_cons (pe_lc (own := [("index", 3), ("move", 4)]) (wi := (iEnumS K (tCons (tFld K (tVar 0) ("moves" : Str)) tNil))) (g := (gTup K 2 (gCons (gName 3) (gCons (gName 4) gNil)))) (tt := (tAnd (tTest (tOp rEq (tFld K (tVar 4) ("place" : Str)) (tVar 1))) (tB (tFn (sp_holds w K) (tCons (tFld K (tVar 4) ("conditions" : Str)) (tCons (tVar 2) tNil)))))) (te := (tVar 3)) rfl sc_moves_at.nd (pi_enumS (by rfl) E.f_enumerate (pa_cons (pe_fld (pv 0) rfl) pa_nil)) (blkOk_by (own := [("index", 3), ("move", 4)]) (N := N_moves_at) (sc := defScope s_moves_at) (by decide +kernel)) (fun _ _ _ _ _ => (pg_tup rfl (pgs_cons (pg_name (i := 3) sc_moves_at.nd rfl (Or.inl rfl)) (pgs_cons (pg_name (i := 4) sc_moves_at.nd rfl (Or.inl rfl)) pgs_nil)))) (fun _ _ _ _ _ => (pts_one (PW.pt (pw_and (pt_cmpR op_eq (pe_fld (pv 4) rfl) (pv 1) (nomark _)) (pw_and1 (pt_val (pe_fn (ok_holds E) (hr.mono (by decide)) (by rfl) (pa_cons (pe_fld (pv 4) rfl) (pa_cons (pv 2) pa_nil))))))))) (fun _ _ _ _ _ => (pv 3))) pa_nil))))), (FunD.bindsN F (fun _ _ _ _ _ _ us hl => match us, hl with | [_, _, _], _ => rfl)), E.g_moves_at, F.kp⟩
theorem ok_is_goal {P : Program} {w : World} {K : PySem.W.Frag} {mg : Str → Option Value} {base : Heap} (E : Ctx w K mg) : DefOk P w K mg base "is_goal" [("book" : Str), ("place" : Str), ("n" : Str)] 4 (sp_is_goal w K) := by
  obtain ⟨fd, F⟩ := E.D_is_goal
  exact ⟨_, fd, fn_mk (t := t_is_goal P w K) F sc_is_goal (rd_is_goal E) (fun cdv A outer s H E0 hr => (pss_cons (ps_expr (pe_fn (ok_check_state E) (hr.mono (by decide)) (by rfl) (pa_cons (pv 0) (pa_cons (pv 1) (pa_cons (pv 2) pa_nil)))))
    (pss_one (ps_ret (pe_callB (cr_any rfl) (by rfl) E.f_any (by decide +kernel) (pa_cons (pe_lc (own := [("goal", 3)]) (wi := (iTup K (tFld K (tVar 0) ("goals" : Str)))) (g := (gName 3)) (tt := tYes) (te := (tAndV (tOp rEq (tFld K (tVar 3) ("place" : Str)) (tVar 1)) (tFn (sp_holds w K) (tCons (tFld K (tVar 3) ("conditions" : Str)) (tCons (tVar 2) tNil))))) rfl sc_is_goal.nd (pi_tup (pe_fld (pv 0) rfl)) (blkOk_by (own := [("goal", 3)]) (N := N_is_goal) (sc := defScope s_is_goal) (by decide +kernel)) (fun _ _ _ _ _ => (pg_name (i := 3) sc_is_goal.nd rfl (Or.inl rfl))) (fun _ _ _ _ _ => pts_nil) (fun _ _ _ _ _ => (pe_and (pe_cmpR op_eq (pe_fld (pv 3) rfl) (pv 1) (nomark _)) (pe_one (pe_fn (ok_holds E) (hr.mono (by decide)) (by rfl) (pa_cons (pe_fld (pv 3) rfl) (pa_cons (pv 2) pa_nil))))))) pa_nil)))))), (FunD.bindsN F (fun _ _ _ _ _ _ us hl => match us, hl with | [_, _, _], _ => rfl)), E.g_is_goal, F.kp⟩
theorem optOf_of {B : Bk} {i : Nat} {m : Mv} (h : B.moves[i]? = some m) : optOf B i = (i, m.shift, m.target) := by
  unfold optOf
  rw [h]
section
variable {P : Program} {w : World} {K : PySem.W.Frag} {mg : Str → Option Value} (E : Ctx w K mg)
include E
theorem rd_options (vs : List V) (H : Hp) (Q : VK) (E0 : XK) (h : sp_options w K vs H Q E0) : vs.length = 3 ∧ t_options P w K { nx := fun _ H' => Q .non H', rt := Q } (start N_options vs) H := by
  obtain ⟨b, B, p, n, rfl, hB, ok, hp, q⟩ := h
  refine ⟨rfl, _, rfl, _, rfl, _, rfl, b, B, p, n, rfl, hB, ok, hp, fun H1 e1 => ⟨_, rfl, ?_⟩⟩
  refine ite2 (fun g => q H1 _ e1 ?_) fun g => ?_
  · unfold OptV
    rw [if_pos g]
  · refine ⟨_, rfl, _, rfl, _, rfl, b, B, p, n, rfl, hB.ex e1, ok, fun H2 a e2 s => ⟨a, rfl, ⟨_, s⟩, fun D hD => ?_⟩⟩
    have len : (B.opn p n).length ≤ B.moves.length := by
      unfold Bk.opn
      exact Nat.le_trans (List.length_filter_le _ _) (by simp)
    have okm := ok.m1
    have nD : H D = none := Evl.fresh_back (e1.trans e2) hD
    refine lc_map noS (fun _ z => z.elim) hD (walk_tup (xs := (B.opn p n).map fun i : Nat => V.int i)) (by rw [List.length_map]; omega) (fun i v H' => ∃ o, (B.opts p n)[i]? = some o ∧ Dt K H' v (optD o)) (fun _ _ => True) (fun i H' e _ => Evl.ex_t e.ex s) trivial ?_ (fun _ _ _ _ _ _ => trivial) ?_ ?_ ?_
    · exact fun i v H' zs hl e ⟨d, q1, q2⟩ => ⟨d, q1, q2.tk (.lst hl)⟩
    · exact fun i v H' H'' j hl e e2 _ _ ⟨d, q1, q2⟩ => ⟨d, q1, q2.tk (.ex e2.ex)⟩
    · rintro i x H' H'' k hi hl e - ⟨rfl, hx⟩ kk
      have e0 : Ex H H'' := (e1.trans e2).trans e.ex
      rw [List.length_map] at hi
      rw [List.getElem?_map, List.getElem?_eq_getElem hi] at hx
      cases hx
      have mem : (B.opn p n)[i] ∈ B.opn p n := List.getElem_mem _
      generalize hj : (B.opn p n)[i] = j at mem
      unfold Bk.opn at mem
      have jl : j < B.moves.length := by
        have := (List.mem_filter.mp mem).1
        simpa using this
      have hm : B.moves[j]? = some B.moves[j] := List.getElem?_eq_getElem jl
      obtain ⟨a2, dx, sa, ma, ga, ms, gs, rfl, hb, h1, h2, h3, h4, h5⟩ := hB.ex e0
      obtain ⟨v, hv, am, adx, cv, rfl, hma, hcv⟩ := h4.at hm
      refine ⟨rfl, _, rfl, _, rfl, a2, _, dx, _, _, rfl, hb, E.cls_Book, E.na_Book_moves, rfl, _, rfl, ma, ms, (j : Nat), _, rfl, rfl, h2, atI_nat hv, am, _, adx, _, _, rfl, hma, E.cls_Move, E.na_Move_shift, rfl, ?_⟩
      refine ⟨_, rfl, a2, _, dx, _, _, rfl, hb, E.cls_Book, E.na_Book_moves, rfl, _, rfl, ma, ms, (j : Nat), _, rfl, rfl, h2, atI_nat hv, am, _, adx, _, _, rfl, hma, E.cls_Move, E.na_Move_target, rfl, (by show 3 ≤ sizeLine; decide), fun T hT => ?_⟩
      refine kk _ _ (.of (Ex.new hT)) ⟨optOf B j, ?_, ?_⟩ trivial
      · unfold Bk.opts
        rw [List.getElem?_map, List.getElem?_eq_getElem hi, hj]
        rfl
      · rw [optOf_of hm]
        exact Dt.mk (Evl.st_of upd_same) (.cons (.int _) (.cons (.int _) (.one (.int _))))
    · intro acc H' e hl len z _
      refine q H' _ ((e1.trans e2).trans e.ex) ?_
      unfold OptV
      rw [if_neg g]
      refine ⟨D, acc, rfl, nD, hl, ?_, fun i v d a b => ?_⟩
      · rw [len, List.length_map, List.length_map]
        unfold Bk.opts
        rw [List.length_map]
      · obtain ⟨o, q1, q2⟩ := z i v a
        rw [List.getElem?_map, q1] at b
        cases b
        exact q2
end
theorem ok_options {P : Program} {w : World} {K : PySem.W.Frag} {mg : Str → Option Value} {base : Heap} (E : Ctx w K mg) : DefOk P w K mg base "options" [("book" : Str), ("place" : Str), ("count" : Str)] 5 (sp_options w K) := by
  obtain ⟨fd, F⟩ := E.D_options
  exact ⟨_, fd, fn_mk (t := t_options P w K) F sc_options (rd_options E) (fun cdv A outer s H E0 hr => (pss_cons (ps_if (pt_val (pe_fn (ok_is_goal E) (hr.mono (by decide)) (by rfl) (pa_cons (pv 0) (pa_cons (pv 1) (pa_cons (pv 2) pa_nil)))))
    (pss_one (ps_ret pe_non))
    pss_nil)
    (pss_one (ps_ret (pe_lc (own := [("index", 3)]) (wi := (iTup K (tFn (sp_moves_at w K) (tCons (tVar 0) (tCons (tVar 1) (tCons (tVar 2) tNil)))))) (g := (gName 3)) (tt := tYes) (te := (tTup (tCons (tVar 3) (tCons (tFld K (tOp (rIxT K) (tFld K (tVar 0) ("moves" : Str)) (tVar 3)) ("shift" : Str)) (tCons (tFld K (tOp (rIxT K) (tFld K (tVar 0) ("moves" : Str)) (tVar 3)) ("target" : Str)) tNil))))) rfl sc_options.nd (pi_tup (pe_fn (ok_moves_at E) (hr.mono (by decide)) (by rfl) (pa_cons (pv 0) (pa_cons (pv 1) (pa_cons (pv 2) pa_nil))))) (blkOk_by (own := [("index", 3)]) (N := N_options) (sc := defScope s_options) (by decide +kernel)) (fun _ _ _ _ _ => (pg_name (i := 3) sc_options.nd rfl (Or.inl rfl))) (fun _ _ _ _ _ => pts_nil) (fun _ _ _ _ _ => (pe_tup (pa_cons (pv 3) (pa_cons (pe_fld (pe_ix ix_tup (pe_fld (pv 0) rfl) (pv 3) (fun _ _ => rfl)) rfl) (pa_cons (pe_fld (pe_ix ix_tup (pe_fld (pv 0) rfl) (pv 3) (fun _ _ => rfl)) rfl) pa_nil)))))))))), (FunD.bindsN F (fun _ _ _ _ _ _ us hl => match us, hl with | [_, _, _], _ => rfl)), E.g_options, F.kp⟩
end K28

set_option Elab.async false
set_option linter.all false
set_option maxRecDepth 100000
set_option maxHeartbeats 4000000
namespace K28
open PySem PySem.Spec PyProof.Rows L2
open Evl (Ex)

section
variable {K : PySem.W.Frag} {H H' : Hp}
theorem Sq2.sq (e : Sq K H H') {a : Addr} {xs : List V} (h : Sq2 K H a xs) : Sq2 K H' a xs := h.elim (fun q => .inl (e.l _ _ q)) fun q => .inr (e.t _ _ q)
theorem Sq.ins {p C d : Addr} {fs : List (Str × V)} (e : But p H H') (hp : H p = some (.ins C d fs)) : Sq K H H' := Sq.but e hp (fun _ z => by cases z) (fun _ z => by cases z) fun _ _ z => by cases z
theorem Sq.trans {H1 : Hp} (a : Sq K H H1) (b : Sq K H1 H') : Sq K H H' := ⟨fun c xs h => b.l c xs (a.l c xs h), fun c xs h => b.t c xs (a.t c xs h)⟩
theorem Sq.tup (a : Sq K H H') : TupK K H H' := a.t
theorem IsMv.but {p C d : Addr} (e : But p H H') (hp : H p = some (.ins C d [])) {v : V} {m : Mv} (h : IsMv K H v m) : IsMv K H' v m := by
  obtain ⟨a, dx, c, e1, e2, e3⟩ := h
  refine ⟨a, dx, c, e1, e a _ (fun z => ?_) e2, e3.tk (Sq.ins e hp).tup⟩
  subst z
  rw [hp] at e2
  cases e2
theorem IsGw.but {p C d : Addr} (e : But p H H') (hp : H p = some (.ins C d [])) {v : V} {m : Gw} (h : IsGw K H v m) : IsGw K H' v m := by
  obtain ⟨a, dx, c, e1, e2, e3⟩ := h
  refine ⟨a, dx, c, e1, e a _ (fun z => ?_) e2, e3.tk (Sq.ins e hp).tup⟩
  subst z
  rw [hp] at e2
  cases e2
end
def sp_Book___init__ (w : World) (K : PySem.W.Frag) : Sp := fun vs H Q _ => ∃ a dx sa ma ga ms gs B, vs = [.ref a, .ref sa, .ref ma, .ref ga] ∧ H a = some (.ins (He.ga K "Book") dx []) ∧ Sq2 K H sa (B.sides.map V.int) ∧ Sq2 K H ma ms ∧ Sq2 K H ga gs ∧
  Al (IsMv K H) ms B.moves ∧ Al (IsGw K H) gs B.goals ∧ B.Ok ∧ ∀ H', But a H H' → IsBk K H' (.ref a) B → Q .non H'
def N_Book___init__ : List Str := ["self", "sides", "moves", "goals", "index", "side"]
theorem sc_Book___init__ : FnScope N_Book___init__ ["self", "sides", "moves", "goals"] (defScope s_Book___init__) := ⟨rfl, rfl, rfl, by decide +kernel, rfl, by decide +kernel, by decide +kernel⟩
/-- names: 0 self 1 sides 2 moves 3 goals 4 index 5 side -/
def t_Book___init__ (P : Program) (w : World) (K : PySem.W.Frag) : TS :=
    (tSeq (tIfS (tOr (tNot (tB (tFn (sp_is_row w K) (tCons (tVar 1) tNil)))) (tTest (tOp rEq (tCB (rLenX K) (tCons (tVar 1) tNil)) (tC (.int 0)))))
    tNever
    tNext)
    (tSeq (tFor (iEnumS K (tCons (tVar 1) tNil)) (gTup K 2 (gCons (gName 4) (gCons (gName 5) gNil)))
    (tIfS (tOr (tNot (tB (tFn (sp_is_int w K) (tCons (tVar 5) tNil)))) (tTest (tOp (rIn K true) (tVar 5) (tLst (tCons (tC (.int 0)) (tCons (tC (.int 1)) tNil))))))
    tNever
    tNext))
    (tSeq (sFld K (tVar 0) (tCB (rTupQ K) (tCons (tVar 1) tNil)) ("sides" : Str))
    (tSeq (sFld K (tVar 0) (tCB (rLenX K) (tCons (tFld K (tVar 0) ("sides" : Str)) tNil)) ("places" : Str))
    (tSeq (tDrop (tFn (sp_check_itemsM w K) (tCons (tC (.str "moves")) (tCons (tVar 2) (tCons (tFld K (tVar 0) ("places" : Str)) (tCons (tC (.ref (He.fAd K ("is_move_of", none)))) tNil))))))
    (tSeq (tDrop (tFn (sp_check_itemsG w K) (tCons (tC (.str "goals")) (tCons (tVar 3) (tCons (tFld K (tVar 0) ("places" : Str)) (tCons (tC (.ref (He.fAd K ("is_goal_of", none)))) tNil))))))
    (tSeq (sFld K (tVar 0) (tCB (rTupQ K) (tCons (tVar 2) tNil)) ("moves" : Str))
    (sFld K (tVar 0) (tCB (rTupQ K) (tCons (tVar 3) tNil)) ("goals" : Str)))))))))
section
variable {P : Program} {w : World} {K : PySem.W.Frag} {mg : Str → Option Value} (E : Ctx w K mg)
include E
theorem rd_Book___init__ (vs : List V) (H : Hp) (Q : VK) (E0 : XK) (h : sp_Book___init__ w K vs H Q E0) : vs.length = 4 ∧ t_Book___init__ P w K { nx := fun _ H' => Q .non H', rt := Q } (start N_Book___init__ vs) H := by
  obtain ⟨a, dx, sa, ma, ga, ms, gs, B, rfl, ha, s1, s2, s3, a1, a2, ok, q⟩ := h
  have n0 := ok.n0
  have n1 := ok.n1
  refine ⟨rfl, _, rfl, _, true, rfl, (s1.elim (fun z => .lst z) fun z => .tup z), fun H1 e1 => ⟨true, rfl, _, rfl, _, _, rfl, (s1.ex e1).elim (fun z => .inl ⟨_, z, rfl⟩) (fun z => .inr ⟨_, z, rfl⟩), rfl, _, rfl, ?_⟩⟩
  have len0 : decide (V.int ((B.sides.map V.int).length : Nat) = V.int 0) = false := by
    rw [eqI, List.length_map]
    exact decide_eq_false (by omega)
  rw [len0]
  refine ⟨_, rfl, sa, _, rfl, s1.ex e1, fun J G W hG => ?_⟩
  refine for_it W (fun i σ H' => (∃ y z, σ = [some (.ref a), some (.ref sa), some (.ref ma), some (.ref ga), y, z]) ∧ Ex H1 H') ⟨⟨none, none, rfl⟩, .refl _⟩ (fun i σ H' _ p => hG H' (.ex p.2)) ?_ ?_
  · rintro i y σ H2 H3 hi ⟨⟨u, v, rfl⟩, e2⟩ ⟨T, x1, x2, rfl, hT, rfl, q1, q2⟩
    rw [List.length_map] at hi
    have q3 : (B.sides.map V.int)[i]? = some x2 := q2
    rw [List.getElem?_map, List.getElem?_eq_getElem hi] at q3
    cases q3
    have hs := ok.s B.sides[i] (List.getElem_mem _)
    refine ⟨T, _, rfl, Evl.st_of upd_same, rfl, _, _, rfl, _, _, rfl, rfl, _, rfl, _, true, rfl, .int _, true, rfl, _, rfl, (by show 2 ≤ sizeLine; decide), fun p hp => ?_⟩
    refine ⟨p, _, rfl, .inl (Evl.sq_of upd_same), rfl, rfl, ?_⟩
    have iv : inV (V.int B.sides[i]) [.int 0, .int 1] = true := by
      rcases hs with z | z <;> rw [z] <;> rfl
    rw [if_pos rfl, iv]
    exact ⟨false, rfl, ⟨_, _, rfl⟩, (e2.trans (Ex.new hT)).trans (Ex.new hp)⟩
  · rintro σ H2 ⟨⟨u, v, rfl⟩, e2⟩
    have e3 := e1.trans e2
    -- self.sides
    refine ⟨_, rfl, _, _, rfl, s1.ex e3, fun sb H3 e4 t1 => ?_⟩
    have h3 := (e3.trans e4) a _ ha
    refine ⟨_, rfl, a, _, dx, _, rfl, h3, E.cls_Book, E.na_Book_sides, (by show 0 < 1000; decide), ?_⟩
    -- self.places
    have b3 : But a H H3 := .of (e3.trans e4)
    have t2 : SqT K (upd H3 a (.ins (He.ga K "Book") dx [("sides", .ref sb)])) sb (B.sides.map V.int) := TupK.up h3 noTup_ins _ _ t1
    refine ⟨_, rfl, a, _, dx, _, _, rfl, upd_same, E.cls_Book, E.na_Book_sides, rfl, _, _, rfl, .inr ⟨_, t2, rfl⟩, ?_⟩
    refine ⟨_, rfl, a, _, dx, _, rfl, upd_same, E.cls_Book, E.na_Book_places, (by show 1 < 1000; decide), ?_⟩
    generalize hH4 : upd (upd H3 a _) a _ = H4
    have b4 : But a H H4 := by rw [← hH4]; exact (b3.up _).up _
    have h4 : H4 a = some (.ins (He.ga K "Book") dx [("sides", .ref sb), ("places", .int (B.sides.length : Nat))]) := by rw [← hH4, List.length_map]; exact upd_same
    have t4 : SqT K H4 sb (B.sides.map V.int) := by rw [← hH4]; exact TupK.up upd_same noTup_ins _ _ t2
    have sq4 : Sq K H H4 := .ins b4 ha
    -- check_items
    refine ⟨_, rfl, _, rfl, a, _, dx, _, _, rfl, h4, E.cls_Book, E.na_Book_places, rfl, _, ma, B.sides.length, ms, B.moves, rfl, s2.sq sq4, a1.mono (fun _ _ z => z.but b4 ha), ok.m, fun H5 e5 => ?_⟩
    refine ⟨_, rfl, _, rfl, a, _, dx, _, _, rfl, e5 a _ h4, E.cls_Book, E.na_Book_places, rfl, _, ga, B.sides.length, gs, B.goals, rfl, (s3.sq sq4).ex e5, a2.mono (fun _ _ z => (z.but b4 ha).ex e5), ok.g, fun H6 e6 => ?_⟩
    -- self.moves
    have e56 := e5.trans e6
    refine ⟨_, rfl, _, _, rfl, (s2.sq sq4).ex e56, fun mb H7 e7 u1 => ?_⟩
    have h7 := (e56.trans e7) a _ h4
    refine ⟨_, rfl, a, _, dx, _, rfl, h7, E.cls_Book, E.na_Book_moves, (by show 2 < 1000; decide), ?_⟩
    generalize hH8 : upd H7 a _ = H8
    have b7 : But a H H7 := b4.trans (.of (e56.trans e7))
    have b8 : But a H H8 := by rw [← hH8]; exact b7.up _
    have h8 : H8 a = some (.ins (He.ga K "Book") dx [("sides", .ref sb), ("places", .int (B.sides.length : Nat)), ("moves", .ref mb)]) := by rw [← hH8]; exact upd_same
    have k8 : TupK K H7 H8 := by rw [← hH8]; exact .up h7 noTup_ins
    refine ⟨_, rfl, _, _, rfl, s3.sq (.ins b8 ha), fun gb H9 e9 v1 => ?_⟩
    have h9 := e9 a _ h8
    refine ⟨_, rfl, a, _, dx, _, rfl, h9, E.cls_Book, E.na_Book_goals, (by show 3 < 1000; decide), ?_⟩
    have k10 : TupK K H9 (upd H9 a (.ins (He.ga K "Book") dx (fBook (.ref sb) (.ref mb) (.ref gb) (B.sides.length : Nat)))) := .up h9 noTup_ins
    have b10 : But a H (upd H9 a (.ins (He.ga K "Book") dx (fBook (.ref sb) (.ref mb) (.ref gb) (B.sides.length : Nat)))) := (b8.trans (.of e9)).up _
    refine q _ b10 ⟨a, dx, sb, mb, gb, ms, gs, rfl, upd_same, ?_, ?_, k10 _ _ v1, a1.mono (fun _ _ z => z.but b10 ha), a2.mono fun _ _ z => z.but b10 ha⟩
    · exact k10 _ _ (Evl.ex_t e9 (k8 _ _ (Evl.ex_t (e56.trans e7) t4)))
    · exact k10 _ _ (Evl.ex_t e9 (k8 _ _ u1))
end
theorem mk_Book {P : Program} {w : World} {K : PySem.W.Frag} {mg : Str → Option Value} {base : Heap} (E : Ctx w K mg) : MkOk P w K mg base "Book" (He.ga K "Book") [("self" : Str), ("sides" : Str), ("moves" : Str), ("goals" : Str)] 6 (sp_Book___init__ w K) := by
  obtain ⟨fd, F⟩ := E.D_Book___init__
  exact ⟨_, fd, fn_mk (t := t_Book___init__ P w K) F sc_Book___init__ (rd_Book___init__ E) (fun cdv A outer s H E0 hr => (pss_cons (ps_if (PW.pt (pw_or (pt_not (pt_val (pe_fn (ok_is_row E) (hr.mono (by decide)) (by rfl) (pa_cons (pv 1) pa_nil)))) (pw_or1 (pt_cmpR op_eq (pe_callB call_len (by rfl) E.f_len (by decide +kernel) (pa_cons (pv 1) pa_nil)) pe_int (nomark _)))))
    (pss_one ps_never)
    pss_nil)
    (pss_cons (ps_for PassesOwn.never rfl (pi_enumS (by rfl) E.f_enumerate (pa_cons (pv 1) pa_nil)) (pg_tup rfl (pgs_cons (pg_name (i := 4) sc_Book___init__.nd rfl (Or.inl rfl)) (pgs_cons (pg_name (i := 5) sc_Book___init__.nd rfl (Or.inl rfl)) pgs_nil)))
    (pss_one (ps_if (PW.pt (pw_or (pt_not (pt_val (pe_fn (ok_is_int E) (hr.mono (by decide)) (by rfl) (pa_cons (pv 5) pa_nil)))) (pw_or1 (pt_cmpR op_notIn_seq (pv 5) (pe_lst (pa_cons pe_int (pa_cons pe_int pa_nil))) (by rfl)))))
    (pss_one ps_never)
    pss_nil)))
    (pss_cons (ps_fld (pv 0) (pe_callTy call_tuple_q (by rfl) E.f_tuple (by decide +kernel) (pa_cons (pv 1) pa_nil)) rfl)
    (pss_cons (ps_fld (pv 0) (pe_callB call_len (by rfl) E.f_len (by decide +kernel) (pa_cons (pe_fld (pv 0) rfl) pa_nil)) rfl)
    (pss_cons (ps_expr (pe_fn (ok_check_itemsM E) (hr.mono (by decide)) (by rfl) (pa_cons pe_str (pa_cons (pv 2) (pa_cons (pe_fld (pv 0) rfl) (pa_cons (pe_glob (by rfl) E.g_is_move_of rfl) pa_nil))))))
    (pss_cons (ps_expr (pe_fn (ok_check_itemsG E) (hr.mono (by decide)) (by rfl) (pa_cons pe_str (pa_cons (pv 3) (pa_cons (pe_fld (pv 0) rfl) (pa_cons (pe_glob (by rfl) E.g_is_goal_of rfl) pa_nil))))))
    (pss_cons (ps_fld (pv 0) (pe_callTy call_tuple_q (by rfl) E.f_tuple (by decide +kernel) (pa_cons (pv 2) pa_nil)) rfl)
    (pss_one (ps_fld (pv 0) (pe_callTy call_tuple_q (by rfl) E.f_tuple (by decide +kernel) (pa_cons (pv 3) pa_nil)) rfl)))))))))), (FunD.bindsN F (fun _ _ _ _ _ _ us hl => match us, hl with | [_, _, _, _], _ => rfl)), E.mk_Book, E.g_Book⟩
/-! ## boards -/
def Bk.conds (B : Bk) : List Cd := B.moves.flatMap Mv.cds ++ B.goals.flatMap Gw.cds
def Cd.rest (f : Nat) : Cd → Nat
  | .rs m _ => Nat.lcm f m.toNat
  | _ => f
def Bk.rests (B : Bk) : Nat := B.conds.foldl Cd.rest 1
def Cd.size : Cd → Option Int
  | .rs _ _ => none
  | .le k | .mo k | .eq k | .ne k => some (if k < 0 then -k else k)
def Bk.bound (B : Bk) : Int := maxOr 0 (B.conds.filterMap Cd.size)
def wB (A B : Bk) : Int := if B.bound > A.bound then B.bound else A.bound
def wR (A B : Bk) : Nat := Nat.lcm A.rests B.rests
def wins (A B : Bk) : List V := rgV (-wB A B - (wR A B : Nat)) (wB A B + (wR A B : Nat) + 1)
theorem conds_len {B : Bk} (ok : B.Ok) : B.conds.length ≤ 2400 := by
  have h1 : ∀ l : List Mv, (∀ m ∈ l, m.cds.length ≤ 20) → (l.flatMap Mv.cds).length ≤ 20 * l.length := by
    intro l
    induction l with
    | nil => intro _; simp
    | cons m l ih =>
      intro h
      have a := h m List.mem_cons_self
      have b := ih fun x hx => h x (List.mem_cons_of_mem _ hx)
      rw [List.flatMap_cons, List.length_append, List.length_cons]
      omega
  have h2 : ∀ l : List Gw, (∀ m ∈ l, m.cds.length ≤ 20) → (l.flatMap Gw.cds).length ≤ 20 * l.length := by
    intro l
    induction l with
    | nil => intro _; simp
    | cons m l ih =>
      intro h
      have a := h m List.mem_cons_self
      have b := ih fun x hx => h x (List.mem_cons_of_mem _ hx)
      rw [List.flatMap_cons, List.length_append, List.length_cons]
      omega
  have a := h1 B.moves fun m hm => (ok.m m hm).c.1
  have b := h2 B.goals fun m hm => (ok.g m hm).c.1
  have c := ok.m1
  have d := ok.g1
  unfold Bk.conds
  rw [List.length_append]
  omega
theorem conds_ok {B : Bk} (ok : B.Ok) : ∀ c ∈ B.conds, c.Ok := by
  intro c hc
  unfold Bk.conds at hc
  rcases List.mem_append.mp hc with h | h
  · obtain ⟨m, hm, h⟩ := List.mem_flatMap.mp h
    exact (ok.m m hm).c.2 c h
  · obtain ⟨m, hm, h⟩ := List.mem_flatMap.mp h
    exact (ok.g m hm).c.2 c h
theorem rest_six {c : Cd} (ok : c.Ok) {f : Nat} (h : f ∣ 6) : c.rest f ∣ 6 := by
  cases c with
  | rs m r =>
    obtain ⟨o1, o2, _, _⟩ := ok
    refine Nat.lcm_dvd h ?_
    have : m.toNat = 1 ∨ m.toNat = 2 ∨ m.toNat = 3 := by omega
    rcases this with z | z | z <;> rw [z] <;> decide
  | _ => exact h
theorem rests_six {B : Bk} (ok : B.Ok) : B.rests ∣ 6 := by
  have h : ∀ (l : List Cd) (f : Nat), (∀ c ∈ l, c.Ok) → f ∣ 6 → l.foldl Cd.rest f ∣ 6 := by
    intro l
    induction l with
    | nil => exact fun f _ h => h
    | cons c l ih => exact fun f a h => ih _ (fun x hx => a x (List.mem_cons_of_mem _ hx)) (rest_six (a c List.mem_cons_self) h)
  exact h _ _ (conds_ok ok) (by decide)
theorem pos_of_six {f : Nat} (h : f ∣ 6) : 1 ≤ f ∧ f ≤ 6 := ⟨Nat.pos_of_dvd_of_pos h (by decide), Nat.le_of_dvd (by decide) h⟩
theorem maxOf_le {b : Int} : ∀ {l : List Int} {x : Int}, x ≤ b → (∀ y ∈ l, y ≤ b) → PySem.W.maxOf x l ≤ b
  | [], _, hx, _ => hx
  | y :: l, x, hx, h => by
    have hy := h y List.mem_cons_self
    show PySem.W.maxOf (if PySem.W.DatumOrd.lt x y = true then y else x) l ≤ b
    refine maxOf_le ?_ fun z hz => h z (List.mem_cons_of_mem _ hz)
    split <;> assumption
theorem maxOf_ge {b : Int} : ∀ {l : List Int} {x : Int}, (x = b ∨ b ∈ l) → b ≤ PySem.W.maxOf x l
  | [], _, h => by
    rcases h with h | h
    · rw [← h]
      exact Int.le_refl _
    · cases h
  | y :: l, x, h => by
    have up : ∀ (l : List Int) (x : Int), x ≤ PySem.W.maxOf x l := by
      intro l
      induction l with
      | nil => exact fun x => Int.le_refl _
      | cons y l ih =>
        intro x
        show x ≤ PySem.W.maxOf (if PySem.W.DatumOrd.lt x y = true then y else x) l
        refine Int.le_trans ?_ (ih _)
        split
        · rename_i h
          exact Int.le_of_lt (of_decide_eq_true h)
        · exact Int.le_refl _
    show b ≤ PySem.W.maxOf (if PySem.W.DatumOrd.lt x y = true then y else x) l
    by_cases c : b ∈ l
    · exact maxOf_ge (.inr c)
    · refine Int.le_trans ?_ (up l _)
      have h2 : x = b ∨ y = b := by
        rcases h with h | h
        · exact .inl h
        · rcases List.mem_cons.mp h with h | h
          · exact .inr h.symm
          · exact absurd h c
      split
      · rename_i q
        have q2 : x < y := of_decide_eq_true q
        omega
      · rename_i q
        have q2 : ¬ x < y := fun z => q (decide_eq_true z)
        omega
theorem maxOr_le {d b : Int} (hd : d ≤ b) : ∀ {l : List Int}, (∀ x ∈ l, x ≤ b) → maxOr d l ≤ b
  | [], _ => hd
  | x :: l, h => maxOf_le (h x List.mem_cons_self) fun y hy => h y (List.mem_cons_of_mem _ hy)
theorem maxOr_ge {d b : Int} : ∀ {l : List Int}, b ∈ l → b ≤ maxOr d l
  | x :: l, h => maxOf_ge ((List.mem_cons.mp h).imp Eq.symm id)
theorem size_bd {c : Cd} (ok : c.Ok) {x : Int} (h : c.size = some x) : 0 ≤ x ∧ x ≤ 9 := by
  cases c with
  | rs m r => cases h
  | le k | mo k | eq k | ne k =>
    have o : -9 ≤ k ∧ k ≤ 9 := ok
    have e : (if k < 0 then -k else k) = x := Option.some.inj h
    rw [← e]
    split <;> omega
theorem bound_bd {B : Bk} (ok : B.Ok) : 0 ≤ B.bound ∧ B.bound ≤ 9 := by
  have all : ∀ x ∈ B.conds.filterMap Cd.size, 0 ≤ x ∧ x ≤ 9 := fun x hx => by
    obtain ⟨c, hc, e⟩ := List.mem_filterMap.mp hx
    exact size_bd (conds_ok ok c hc) e
  refine ⟨?_, maxOr_le (by decide) fun x hx => (all x hx).2⟩
  unfold Bk.bound
  cases q : B.conds.filterMap Cd.size with
  | nil => exact Int.le_refl _
  | cons x l =>
    rw [q] at all
    exact Int.le_trans (all x List.mem_cons_self).1 (maxOr_ge List.mem_cons_self)
/-- the moves' conditions, then the goals', up to the i-th item -/
theorem take_conds (B : Bk) (i : Nat) {cs : List Cd} (h : (B.moves.map Mv.cds ++ B.goals.map Gw.cds)[i]? = some cs) :
    ((B.moves.map Mv.cds ++ B.goals.map Gw.cds).take (i + 1)).flatten = ((B.moves.map Mv.cds ++ B.goals.map Gw.cds).take i).flatten ++ cs := by
  rw [List.take_succ, h, List.flatten_append]
  simp
def sp_divisor (w : World) (K : PySem.W.Frag) : Sp := fun vs H Q _ => ∃ a b : Nat, vs = [.int a, .int b] ∧ Q (.int (Nat.gcd a b : Nat)) H
def sp_common (w : World) (K : PySem.W.Frag) : Sp := fun vs H Q _ => ∃ a b : Nat, vs = [.int a, .int b] ∧ 1 ≤ a ∧ a ≤ 1000000 ∧ 1 ≤ b ∧ b ≤ 1000000 ∧ Q (.int (Nat.lcm a b : Nat)) H
def sp_conditions_of (w : World) (K : PySem.W.Frag) : Sp := fun vs H Q _ => ∃ b B, vs = [b] ∧ IsBk K H b B ∧ B.Ok ∧ ∀ H' l cs, Ex H H' → H' l = some (.lst cs) → DtAll K H' cs (B.conds.map Cd.d) → Q (.ref l) H'
def sp_rests_of (w : World) (K : PySem.W.Frag) : Sp := fun vs H Q _ => ∃ b B, vs = [b] ∧ IsBk K H b B ∧ B.Ok ∧ ∀ H', Ex H H' → Q (.int (B.rests : Nat)) H'
def sp_bound_of (w : World) (K : PySem.W.Frag) : Sp := fun vs H Q _ => ∃ b B, vs = [b] ∧ IsBk K H b B ∧ B.Ok ∧ ∀ H', Ex H H' → Q (.int B.bound) H'
def sp_window_of (w : World) (K : PySem.W.Frag) : Sp := fun vs H Q _ => ∃ a b A B, vs = [a, b] ∧ IsBk K H a A ∧ A.Ok ∧ IsBk K H b B ∧ B.Ok ∧ ∀ H' l, Ex H H' → H' l = some (.lst (wins A B)) → Q (.ref l) H'
def N_divisor : List Str := ["one", "other"]
theorem sc_divisor : FnScope N_divisor ["one", "other"] (defScope s_divisor) := ⟨rfl, rfl, rfl, by decide +kernel, rfl, by decide +kernel, by decide +kernel⟩
/-- names: 0 one 1 other -/
def t_divisor (P : Program) (w : World) (K : PySem.W.Frag) : TS :=
    (tSeq (tWhile (tTest (tOp rGtI (tVar 1) (tC (.int 0))))
    (tPar 0 1 (tCons (tVar 1) (tCons (tOp rModI (tVar 0) (tVar 1)) tNil))))
    (tRet (tVar 0)))
def N_common : List Str := ["one", "other"]
theorem sc_common : FnScope N_common ["one", "other"] (defScope s_common) := ⟨rfl, rfl, rfl, by decide +kernel, rfl, by decide +kernel, by decide +kernel⟩
/-- names: 0 one 1 other -/
def t_common (P : Program) (w : World) (K : PySem.W.Frag) : TS :=
    (tRet (tOp rMulI (tOp rFdivI (tVar 0) (tFn (sp_divisor w K) (tCons (tVar 0) (tCons (tVar 1) tNil)))) (tVar 1)))
def N_conditions_of : List Str := ["book", "found", "item"]
theorem sc_conditions_of : FnScope N_conditions_of ["book"] (defScope s_conditions_of) := ⟨rfl, rfl, rfl, by decide +kernel, rfl, by decide +kernel, by decide +kernel⟩
/-- names: 0 book 1 found 2 item -/
def t_conditions_of (P : Program) (w : World) (K : PySem.W.Frag) : TS :=
    (tSeq (tAsg (tLst tNil) (gName 1))
    (tSeq (tFor (iTup K (tOp (rCatQ K) (tFld K (tVar 0) ("moves" : Str)) (tFld K (tVar 0) ("goals" : Str)))) (gName 2)
    (tDrop (tBM K "list" (rExtendT K) (tVar 1) (tCons (tFld K (tVar 2) ("conditions" : Str)) tNil))))
    (tRet (tVar 1))))
def N_rests_of : List Str := ["book", "found", "condition"]
theorem sc_rests_of : FnScope N_rests_of ["book"] (defScope s_rests_of) := ⟨rfl, rfl, rfl, by decide +kernel, rfl, by decide +kernel, by decide +kernel⟩
/-- names: 0 book 1 found 2 condition -/
def t_rests_of (P : Program) (w : World) (K : PySem.W.Frag) : TS :=
    (tSeq (tAsg (tC (.int 1)) (gName 1))
    (tSeq (tFor (iList K (tFn (sp_conditions_of w K) (tCons (tVar 0) tNil))) (gName 2)
    (tIfS (tTest (tOp rEq (tOp (rIxT K) (tVar 2) (tC (.int 0))) (tC (.str "rest"))))
    (tAsg (tFn (sp_common w K) (tCons (tVar 1) (tCons (tOp (rIxT K) (tVar 2) (tC (.int 1))) tNil))) (gName 1))
    tNext))
    (tRet (tVar 1))))
def N_bound_of : List Str := ["book", "condition"]
theorem sc_bound_of : FnScope N_bound_of ["book"] (defScope s_bound_of) := ⟨rfl, rfl, rfl, by decide +kernel, rfl, by decide +kernel, by decide +kernel⟩
/-- names: 0 book 1 condition -/
def t_bound_of (P : Program) (w : World) (K : PySem.W.Frag) : TS :=
    (tRet (tCKw (rMaxD K) (tCons (tLc (iList K (tFn (sp_conditions_of w K) (tCons (tVar 0) tNil))) (gName 1) (tTest (tOp rNe (tOp (rIxT K) (tVar 1) (tC (.int 0))) (tC (.str "rest")))) (tCB rAbsI (tCons (tOp (rIxT K) (tVar 1) (tC (.int 1))) tNil)) [1]) tNil) (tCons (tC (.int 0)) tNil)))
def N_window_of : List Str := ["one", "other", "bound", "rests"]
theorem sc_window_of : FnScope N_window_of ["one", "other"] (defScope s_window_of) := ⟨rfl, rfl, rfl, by decide +kernel, rfl, by decide +kernel, by decide +kernel⟩
/-- names: 0 one 1 other 2 bound 3 rests -/
def t_window_of (P : Program) (w : World) (K : PySem.W.Frag) : TS :=
    (tSeq (tAsg (tCB rMax2I (tCons (tFn (sp_bound_of w K) (tCons (tVar 0) tNil)) (tCons (tFn (sp_bound_of w K) (tCons (tVar 1) tNil)) tNil))) (gName 2))
    (tSeq (tAsg (tFn (sp_common w K) (tCons (tFn (sp_rests_of w K) (tCons (tVar 0) tNil)) (tCons (tFn (sp_rests_of w K) (tCons (tVar 1) tNil)) tNil))) (gName 3))
    (tRet (tLstRg (tRg2 (tOp rSubI (tUn rNegI (tVar 2)) (tVar 3)) (tOp rAddI (tOp rAddI (tVar 2) (tVar 3)) (tC (.int 1))))))))
section
variable {P : Program} {w : World} {K : PySem.W.Frag} {mg : Str → Option Value} (E : Ctx w K mg)
include E
theorem rd_divisor (vs : List V) (H : Hp) (Q : VK) (E0 : XK) (h : sp_divisor w K vs H Q E0) : vs.length = 2 ∧ t_divisor P w K { nx := fun _ H' => Q .non H', rt := Q } (start N_divisor vs) H := by
  obtain ⟨a, b, rfl, q⟩ := h
  refine ⟨rfl, ?_⟩
  refine ⟨fun m σ H' => H' = H ∧ ∃ x : Nat, σ = [some (.int x), some (.int m)] ∧ Nat.gcd x m = Nat.gcd a b, ⟨b, rfl, a, rfl, rfl⟩, ?_⟩
  rintro m σ H' ⟨rfl, x, rfl, e⟩
  refine ⟨_, rfl, m, 0, rfl, rfl, _, rfl, ?_⟩
  by_cases hm : m = 0
  · subst hm
    refine ⟨_, rfl, ?_⟩
    rw [Nat.gcd_zero_right] at e
    rw [e]
    exact q
  · have h0 : decide ((0 : Int) < (m : Nat)) = true := decide_eq_true (by omega)
    rw [h0]
    refine ⟨_, fun σ' H2 z => z, ?_⟩
    refine ⟨_, rfl, _, rfl, _, rfl, x, m, rfl, rfl, (by omega), _, _, rfl, ?_⟩
    refine ⟨x % m, Nat.mod_lt _ (by omega), rfl, m, ?_, ?_⟩
    · rfl
    · rw [← e, Nat.gcd_comm x m, Nat.gcd_rec m x, Nat.gcd_comm]
theorem rd_common (vs : List V) (H : Hp) (Q : VK) (E0 : XK) (h : sp_common w K vs H Q E0) : vs.length = 2 ∧ t_common P w K { nx := fun _ H' => Q .non H', rt := Q } (start N_common vs) H := by
  obtain ⟨a, b, rfl, a1, a2, b1, b2, q⟩ := h
  have g0 : 0 < Nat.gcd a b := Nat.gcd_pos_of_pos_left _ a1
  have g1 : Nat.gcd a b ≤ a := Nat.gcd_le_left _ a1
  have e1 : Int.fdiv (a : Nat) (Nat.gcd a b : Nat) = ((a / Nat.gcd a b : Nat) : Int) := by
    rw [Int.fdiv_eq_ediv_of_nonneg _ (by omega)]
    exact (Int.natCast_ediv _ _).symm
  refine ⟨rfl, _, rfl, _, rfl, _, rfl, a, b, rfl, a, (Nat.gcd a b : Nat), rfl, rfl, ⟨by omega, by omega⟩, _, rfl, _, b, rfl, rfl, .inr ⟨by omega, by omega⟩, ?_⟩
  show Q (.int (Int.fdiv (a : Nat) (Nat.gcd a b : Nat) * (b : Nat))) H
  rw [e1, ← Int.natCast_mul]
  have e2 : a / Nat.gcd a b * b = Nat.lcm a b := by
    unfold Nat.lcm
    rw [Nat.div_mul_right_comm (Nat.gcd_dvd_left a b)]
  rw [e2]
  exact q
end
theorem ok_divisor {P : Program} {w : World} {K : PySem.W.Frag} {mg : Str → Option Value} {base : Heap} (E : Ctx w K mg) : DefOk P w K mg base "divisor" [("one" : Str), ("other" : Str)] 1 (sp_divisor w K) := by
  obtain ⟨fd, F⟩ := E.D_divisor
  exact ⟨_, fd, fn_mk (t := t_divisor P w K) F sc_divisor (rd_divisor E) (fun cdv A outer s H E0 hr => (pss_cons (ps_while PassesOwn.never (pt_cmpR op_gt (pv 1) pe_int (nomark _))
    (pss_one (ps_par (i := 0) (j := 1) rfl sc_divisor.nd rfl rfl (by decide) rfl rfl (pa_cons (pv 1) (pa_cons (pe_op op_mod (pv 0) (pv 1)) pa_nil)) rfl)))
    (pss_one (ps_ret (pv 0))))), (FunD.bindsN F (fun _ _ _ _ _ _ us hl => match us, hl with | [_, _], _ => rfl)), E.g_divisor, F.kp⟩
theorem ok_common {P : Program} {w : World} {K : PySem.W.Frag} {mg : Str → Option Value} {base : Heap} (E : Ctx w K mg) : DefOk P w K mg base "common" [("one" : Str), ("other" : Str)] 2 (sp_common w K) := by
  obtain ⟨fd, F⟩ := E.D_common
  exact ⟨_, fd, fn_mk (t := t_common P w K) F sc_common (rd_common E) (fun cdv A outer s H E0 hr => (pss_one (ps_ret (pe_op op_mul (pe_op op_fdivN (pv 0) (pe_fn (ok_divisor E) (hr.mono (by decide)) (by rfl) (pa_cons (pv 0) (pa_cons (pv 1) pa_nil)))) (pv 1))))), (FunD.bindsN F (fun _ _ _ _ _ _ us hl => match us, hl with | [_, _], _ => rfl)), E.g_common, F.kp⟩
section
variable {P : Program} {w : World} {K : PySem.W.Frag} {mg : Str → Option Value} (E : Ctx w K mg)
include E
theorem rd_conditions_of (vs : List V) (H : Hp) (Q : VK) (E0 : XK) (h : sp_conditions_of w K vs H Q E0) : vs.length = 1 ∧ t_conditions_of P w K { nx := fun _ H' => Q .non H', rt := Q } (start N_conditions_of vs) H := by
  obtain ⟨b, B, rfl, hB, ok, q⟩ := h
  obtain ⟨a, dx, sa, ma, ga, ms, gs, rfl, hb, h1, h2, h3, h4, h5⟩ := id hB
  have m1 := ok.m1
  have g1 := ok.g1
  have l4 := h4.1
  have l5 := h5.1
  refine ⟨rfl, (by show 0 ≤ sizeLine; decide), fun D hD => ?_⟩
  have e0 : Ex H (upd H D (.lst [])) := Ex.new hD
  refine ⟨_, rfl, a, _, dx, _, _, rfl, e0 a _ hb, E.cls_Book, E.na_Book_moves, rfl, _, rfl, a, _, dx, _, _, rfl, e0 a _ hb, E.cls_Book, E.na_Book_goals, rfl, ma, ga, ms, gs, rfl, rfl, Evl.ex_t e0 h2, Evl.ex_t e0 h3, by omega, fun c H1 e1 s1 => ?_⟩
  have hD1 : H1 D = some (.lst []) := e1 D _ upd_same
  have allC : ((B.moves.map Mv.cds ++ B.goals.map Gw.cds)).flatten = B.conds := by
    unfold Bk.conds
    rw [List.flatten_append, List.flatMap_def, List.flatMap_def]
  have lenC := conds_len ok
  refine ⟨c, rfl, ⟨_, s1⟩, ?_⟩
  refine for_it (walk_tup (xs := ms ++ gs)) (fun i σ H' => (∃ y, σ = [some (.ref a), some (.ref D), y]) ∧ Frm (· = D) H1 H' ∧ ∃ cs, H' D = some (.lst cs) ∧ DtAll K H' cs (((B.moves.map Mv.cds ++ B.goals.map Gw.cds).take i).flatten.map Cd.d)) ?_ ?_ ?_ ?_
  · exact ⟨⟨none, rfl⟩, Frm.refl _ _, [], hD1, .nil⟩
  · rintro i σ H' _ ⟨_, f, _⟩
    exact TupK.frm f (fun x z o h => by rw [z, hD1] at h; cases h; exact noTup_lst) _ _ s1
  · rintro i x σ H' H'' hi ⟨⟨y, rfl⟩, f, cs, hl, al⟩ ⟨rfl, hx⟩
    have nD : H D = none := hD
    have eH : Ex H H'' := fun z o h => f z o (fun q => by rw [q, nD] at h; cases h) (e1 z _ (e0 z _ h))
    have lenall : ((B.moves.map Mv.cds ++ B.goals.map Gw.cds).take i).flatten.length ≤ 2400 := by
      have h := congrArg List.length allC
      rw [← List.take_append_drop i (B.moves.map Mv.cds ++ B.goals.map Gw.cds), List.flatten_append, List.length_append] at h
      omega
    -- the item: a move or a goal
    have item : ∃ p C dx fs cv cds, x = .ref p ∧ H'' p = some (.ins C dx fs) ∧ Cls K C ∧ NoAttr K C "conditions" ∧ fs.lookup ("conditions" : Str) = some cv ∧ Dt K H'' cv (cdsD cds) ∧ CdsOk cds ∧ (B.moves.map Mv.cds ++ B.goals.map Gw.cds)[i]? = some cds := by
      by_cases hlt : i < ms.length
      · rw [List.getElem?_append_left hlt] at hx
        obtain ⟨m, hm, p, dx, cv, e1, e2, e3⟩ := h4.get hx
        exact ⟨p, _, dx, _, cv, m.cds, e1, eH _ _ e2, E.cls_Move, E.na_Move_conditions, rfl, e3.tk (.ex eH), (ok.m m (List.mem_of_getElem? hm)).c, by rw [List.getElem?_append_left (by rw [List.length_map]; omega), List.getElem?_map, hm]; rfl⟩
      · rw [List.getElem?_append_right (Nat.le_of_not_lt hlt)] at hx
        obtain ⟨m, hm, p, dx, cv, e1, e2, e3⟩ := h5.get hx
        exact ⟨p, _, dx, _, cv, m.cds, e1, eH _ _ e2, E.cls_Goal, E.na_Goal_conditions, rfl, e3.tk (.ex eH), (ok.g m (List.mem_of_getElem? hm)).c, by
          rw [List.getElem?_append_right (by rw [List.length_map]; omega), List.length_map, ← l4, List.getElem?_map, hm]
          rfl⟩
    obtain ⟨p, C, dxp, fs, cv, cds, rfl, hp, cl, na, lk, dt, cok, hi2⟩ := item
    obtain ⟨cp, cx, rfl, sc, ac⟩ := dt.tupD
    have lcx : cx.length ≤ 20 := by
      rw [ac.1, List.length_map]
      exact cok.1
    have lcs : cs.length ≤ 2400 := by
      rw [al.1, List.length_map]
      exact lenall
    refine ⟨_, rfl, .inl ⟨rfl, _, Evl.sq_of hl⟩, _, rfl, p, C, dxp, fs, _, rfl, hp, cl, na, lk, D, cp, cs, cx, rfl, rfl, hl, sc, Evl.sz_of (by omega), ⟨_, rfl⟩, ?_, cs ++ cx, upd_same, ?_⟩
    · intro z o hz h
      rw [upd_ne hz]
      exact f z o hz h
    · rw [take_conds B i hi2, List.map_append]
      exact (al.app ac).tk (.up hl noTup_lst)
  · rintro σ H' ⟨⟨y, rfl⟩, f, cs, hl, al⟩
    have eH : Ex H H' := fun z o h => f z o (fun q => by rw [q, hD] at h; cases h) (e1 z _ (e0 z _ h))
    refine ⟨_, rfl, q H' D cs eH hl ?_⟩
    have e : (B.moves.map Mv.cds ++ B.goals.map Gw.cds).take (ms ++ gs).length = B.moves.map Mv.cds ++ B.goals.map Gw.cds := by
      refine List.take_of_length_le ?_
      rw [List.length_append, List.length_append, List.length_map, List.length_map]
      omega
    rw [e, allC] at al
    exact al
end
theorem ok_conditions_of {P : Program} {w : World} {K : PySem.W.Frag} {mg : Str → Option Value} {base : Heap} (E : Ctx w K mg) : DefOk P w K mg base "conditions_of" [("book" : Str)] 1 (sp_conditions_of w K) := by
  obtain ⟨fd, F⟩ := E.D_conditions_of
  exact ⟨_, fd, fn_mk (t := t_conditions_of P w K) F sc_conditions_of (rd_conditions_of E) (fun cdv A outer s H E0 hr => (pss_cons (ps_set (i := 1) sc_conditions_of.nd rfl (Or.inl rfl) (pe_lst pa_nil))
    (pss_cons (ps_for PassesOwn.never rfl (pi_tup (pe_op op_catQ (pe_fld (pv 0) rfl) (pe_fld (pv 0) rfl))) (pg_name (i := 2) sc_conditions_of.nd rfl (Or.inl rfl))
    (pss_one (ps_expr (pe_bm PySem.F.plainAttrs_list PySem.F.slot_list_extend PySem.F.type_list_extend mt_extendT (pv 1) (pa_cons (pe_fld (pv 2) rfl) pa_nil)))))
    (pss_one (ps_ret (pv 1)))))), (FunD.bindsN F (fun _ _ _ _ _ _ us hl => match us, hl with | [_], _ => rfl)), E.g_conditions_of, F.kp⟩
section
variable {P : Program} {w : World} {K : PySem.W.Frag} {mg : Str → Option Value} (E : Ctx w K mg)
include E
theorem rd_rests_of (vs : List V) (H : Hp) (Q : VK) (E0 : XK) (h : sp_rests_of w K vs H Q E0) : vs.length = 1 ∧ t_rests_of P w K { nx := fun _ H' => Q .non H', rt := Q } (start N_rests_of vs) H := by
  obtain ⟨b, B, rfl, hB, ok, q⟩ := h
  refine ⟨rfl, _, rfl, b, B, rfl, hB, ok, fun H1 l cs e1 hl al => ?_⟩
  refine ⟨l, rfl, ⟨_, Evl.sq_of hl⟩, ?_⟩
  have len : cs.length = B.conds.length := by rw [al.1, List.length_map]
  refine for_it (walk_list (xs := cs)) (fun i σ H' => (∃ f y, σ = [some b, some (.int (f : Nat)), y] ∧ f = (B.conds.take i).foldl Cd.rest 1 ∧ f ∣ 6) ∧ H' = H1) ⟨⟨1, none, rfl, rfl, by decide⟩, rfl⟩ (fun i σ H' _ p => by rw [p.2]; exact Evl.sq_of hl) ?_ ?_
  · rintro i x σ H' H'' hi ⟨⟨f, y, rfl, hf, h6⟩, rfl⟩ ⟨rfl, hx⟩
    have hc : B.conds[i]? = some (B.conds[i]'(by omega)) := List.getElem?_eq_getElem (by omega)
    have okc := conds_ok ok _ (List.getElem_mem (l := B.conds) (by omega : i < B.conds.length))
    have dt := al.2 i x _ hx (by rw [List.getElem?_map, hc]; rfl)
    generalize hcc : B.conds[i]'(by omega) = c at hc okc dt
    have step : (B.conds.take (i + 1)).foldl Cd.rest 1 = c.rest f := by
      rw [List.take_succ, hc, List.foldl_append, ← hf]
      rfl
    obtain ⟨a, xs, rfl, s, t⟩ := dt.tupD
    obtain ⟨f1, f6⟩ := pos_of_six h6
    cases c with
    | rs m r =>
      obtain ⟨u, v, z, rfl, d1, d2, d3⟩ := t.three
      rw [d1.strD, d2.intD, d3.intD] at s
      obtain ⟨o1, o2, o3, o4⟩ := id okc
      have em : m = ((m.toNat : Nat) : Int) := by omega
      refine ⟨_, rfl, a, _, 0, _, rfl, rfl, s, rfl, rfl, true, rfl, _, rfl, _, rfl, a, _, 1, _, rfl, rfl, s, rfl, f, m.toNat, (by rw [← em]; rfl), f1, by omega, by omega, by omega, ⟨_, _, rfl, ?_, ?_⟩, rfl⟩
      · exact step.symm
      · exact rest_six (c := .rs m r) okc h6
    | le k | mo k | eq k | ne k =>
      obtain ⟨u, v, rfl, d1, d2⟩ := t.two
      rw [d1.strD, d2.intD] at s
      exact ⟨_, rfl, a, _, 0, _, rfl, rfl, s, rfl, rfl, false, rfl, ⟨_, _, rfl, step.symm, h6⟩, rfl⟩
  · rintro σ H' ⟨⟨f, y, rfl, hf, _⟩, rfl⟩
    rw [len, List.take_length] at hf
    subst hf
    exact ⟨_, rfl, q _ e1⟩
theorem rd_bound_of (vs : List V) (H : Hp) (Q : VK) (E0 : XK) (h : sp_bound_of w K vs H Q E0) : vs.length = 1 ∧ t_bound_of P w K { nx := fun _ H' => Q .non H', rt := Q } (start N_bound_of vs) H := by
  obtain ⟨b, B, rfl, hB, ok, q⟩ := h
  refine ⟨rfl, _, rfl, b, B, rfl, hB, ok, fun H1 l cs e1 hl al => ?_⟩
  have len : cs.length = B.conds.length := by rw [al.1, List.length_map]
  have lenC := conds_len ok
  refine ⟨l, rfl, ⟨_, Evl.sq_of hl⟩, fun D hD => ?_⟩
  refine lc_filt hD (walk_list (xs := cs)) (by omega) (fun i => (B.conds[i]?.bind Cd.size).map V.int) (fun H' e => Evl.ex_l e (Evl.sq_of hl)) ?_ ?_
  · rintro i x H' H'' k k0 hi e ⟨rfl, hx⟩ kk kk0
    have hc : B.conds[i]? = some (B.conds[i]'(by omega)) := List.getElem?_eq_getElem (by omega)
    have dt := (al.2 i x _ hx (by rw [List.getElem?_map, hc]; rfl)).tk (.ex e)
    generalize hcc : B.conds[i]'(by omega) = c at hc dt
    rw [hc] at kk kk0
    obtain ⟨a, xs, rfl, s, t⟩ := dt.tupD
    cases c with
    | rs m r =>
      obtain ⟨u, v, z, rfl, d1, d2, d3⟩ := t.three
      rw [d1.strD, d2.intD, d3.intD] at s
      exact ⟨rfl, _, rfl, a, _, 0, _, rfl, rfl, s, rfl, rfl, false, rfl, kk0 rfl _ (.refl _)⟩
    | le j | mo j | eq j | ne j =>
      obtain ⟨u, v, rfl, d1, d2⟩ := t.two
      rw [d1.strD, d2.intD] at s
      exact ⟨rfl, _, rfl, a, _, 0, _, rfl, rfl, s, rfl, rfl, true, rfl, _, rfl, a, _, 1, _, rfl, rfl, s, rfl, j, rfl, kk _ _ rfl (.refl _)⟩
  · intro H' e hl2
    refine ⟨D, B.conds.filterMap Cd.size, 0, rfl, rfl, .inl (.inl ?_), q H' (e1.trans e)⟩
    rw [hl2]
    congr 2
    rw [len]
    have gen : ∀ cs : List Cd, (List.range cs.length).filterMap (fun i => (cs[i]?.bind Cd.size).map V.int) = (cs.filterMap Cd.size).map V.int := by
      intro cs
      induction cs with
      | nil => rfl
      | cons c cs ih =>
        rw [List.length_cons, List.range_succ_eq_map, List.filterMap_cons, List.filterMap_map, List.filterMap_cons]
        have e : ((fun i => ((c :: cs)[i]?.bind Cd.size).map V.int) ∘ Nat.succ) = fun i => (cs[i]?.bind Cd.size).map V.int := by
          funext i
          rfl
        rw [e, ih]
        cases q : c.size with
        | none => simp [q]
        | some z => simp [q]
    exact gen B.conds
end
theorem ok_rests_of {P : Program} {w : World} {K : PySem.W.Frag} {mg : Str → Option Value} {base : Heap} (E : Ctx w K mg) : DefOk P w K mg base "rests_of" [("book" : Str)] 3 (sp_rests_of w K) := by
  obtain ⟨fd, F⟩ := E.D_rests_of
  exact ⟨_, fd, fn_mk (t := t_rests_of P w K) F sc_rests_of (rd_rests_of E) (fun cdv A outer s H E0 hr => (pss_cons (ps_set (i := 1) sc_rests_of.nd rfl (Or.inl rfl) pe_int)
    (pss_cons (ps_for PassesOwn.never rfl (pi_list (pe_fn (ok_conditions_of E) (hr.mono (by decide)) (by rfl) (pa_cons (pv 0) pa_nil))) (pg_name (i := 2) sc_rests_of.nd rfl (Or.inl rfl))
    (pss_one (ps_if (pt_cmpR op_eq (pe_ix ix_tup (pv 2) pe_int (fun _ _ => rfl)) pe_str (nomark _))
    (pss_one (ps_set (i := 1) sc_rests_of.nd rfl (Or.inl rfl) (pe_fn (ok_common E) (hr.mono (by decide)) (by rfl) (pa_cons (pv 1) (pa_cons (pe_ix ix_tup (pv 2) pe_int (fun _ _ => rfl)) pa_nil)))))
    pss_nil)))
    (pss_one (ps_ret (pv 1)))))), (FunD.bindsN F (fun _ _ _ _ _ _ us hl => match us, hl with | [_], _ => rfl)), E.g_rests_of, F.kp⟩
theorem ok_bound_of {P : Program} {w : World} {K : PySem.W.Frag} {mg : Str → Option Value} {base : Heap} (E : Ctx w K mg) : DefOk P w K mg base "bound_of" [("book" : Str)] 2 (sp_bound_of w K) := by
  obtain ⟨fd, F⟩ := E.D_bound_of
  exact ⟨_, fd, fn_mk (t := t_bound_of P w K) F sc_bound_of (rd_bound_of E) (fun cdv A outer s H E0 hr => (pss_one (ps_ret (pe_maxD rfl (room65 hr) (by rfl) E.f_max (pe_lc (own := [("condition", 1)]) (wi := (iList K (tFn (sp_conditions_of w K) (tCons (tVar 0) tNil)))) (g := (gName 1)) (tt := (tTest (tOp rNe (tOp (rIxT K) (tVar 1) (tC (.int 0))) (tC (.str "rest"))))) (te := (tCB rAbsI (tCons (tOp (rIxT K) (tVar 1) (tC (.int 1))) tNil))) rfl sc_bound_of.nd (pi_list (pe_fn (ok_conditions_of E) (hr.mono (by decide)) (by rfl) (pa_cons (pv 0) pa_nil))) (blkOk_by (own := [("condition", 1)]) (N := N_bound_of) (sc := defScope s_bound_of) (by decide +kernel)) (fun _ _ _ _ _ => (pg_name (i := 1) sc_bound_of.nd rfl (Or.inl rfl))) (fun _ _ _ _ _ => (pts_one (pt_cmpR op_ne (pe_ix ix_tup (pv 1) pe_int (fun _ _ => rfl)) pe_str (nomark _)))) (fun _ _ _ _ _ => (pe_callB call_abs (by rfl) E.f_abs (by decide +kernel) (pa_cons (pe_ix ix_tup (pv 1) pe_int (fun _ _ => rfl)) pa_nil)))) pe_int)))), (FunD.bindsN F (fun _ _ _ _ _ _ us hl => match us, hl with | [_], _ => rfl)), E.g_bound_of, F.kp⟩
section
variable {P : Program} {w : World} {K : PySem.W.Frag} {mg : Str → Option Value} (E : Ctx w K mg)
include E
theorem rd_window_of (vs : List V) (H : Hp) (Q : VK) (E0 : XK) (h : sp_window_of w K vs H Q E0) : vs.length = 2 ∧ t_window_of P w K { nx := fun _ H' => Q .non H', rt := Q } (start N_window_of vs) H := by
  obtain ⟨a, b, A, B, rfl, hA, oA, hB, oB, q⟩ := h
  obtain ⟨x1, x2⟩ := pos_of_six (rests_six oA)
  obtain ⟨y1, y2⟩ := pos_of_six (rests_six oB)
  obtain ⟨u1, u2⟩ := bound_bd oA
  obtain ⟨v1, v2⟩ := bound_bd oB
  obtain ⟨z1, z2⟩ := pos_of_six (Nat.lcm_dvd (rests_six oA) (rests_six oB))
  have w1 : 0 ≤ wB A B ∧ wB A B ≤ 9 := by
    unfold wB
    split <;> omega
  refine ⟨rfl, _, rfl, a, A, rfl, hA, oA, fun H1 e1 => ⟨_, rfl, b, B, rfl, hB.ex e1, oB, fun H2 e2 => ⟨A.bound, B.bound, rfl, ?_⟩⟩⟩
  refine ⟨_, rfl, a, A, rfl, hA.ex (e1.trans e2), oA, fun H3 e3 => ⟨_, rfl, b, B, rfl, hB.ex ((e1.trans e2).trans e3), oB, fun H4 e4 => ⟨A.rests, B.rests, rfl, x1, by omega, y1, by omega, ?_⟩⟩⟩
  refine ⟨_, rfl, wB A B, rfl, _, rfl, _, (wR A B : Nat), rfl, rfl, ?_⟩
  refine ⟨_, rfl, _, rfl, _, (wR A B : Nat), rfl, rfl, _, 1, rfl, rfl, _, _, rfl, rfl, ?_⟩
  have z3 : 1 ≤ wR A B := z1
  have z4 : wR A B ≤ 6 := z2
  refine ⟨⟨by omega, by omega, by omega, by omega, by omega⟩, fun l hl => q _ l ((((e1.trans e2).trans e3).trans e4).trans (Ex.new hl)) upd_same⟩
end
theorem ok_window_of {P : Program} {w : World} {K : PySem.W.Frag} {mg : Str → Option Value} {base : Heap} (E : Ctx w K mg) : DefOk P w K mg base "window_of" [("one" : Str), ("other" : Str)] 4 (sp_window_of w K) := by
  obtain ⟨fd, F⟩ := E.D_window_of
  exact ⟨_, fd, fn_mk (t := t_window_of P w K) F sc_window_of (rd_window_of E) (fun cdv A outer s H E0 hr => (pss_cons (ps_set (i := 2) sc_window_of.nd rfl (Or.inl rfl) (pe_callB (call_max2 rfl) (by rfl) E.f_max (by decide +kernel) (pa_cons (pe_fn (ok_bound_of E) (hr.mono (by decide)) (by rfl) (pa_cons (pv 0) pa_nil)) (pa_cons (pe_fn (ok_bound_of E) (hr.mono (by decide)) (by rfl) (pa_cons (pv 1) pa_nil)) pa_nil))))
    (pss_cons (ps_set (i := 3) sc_window_of.nd rfl (Or.inl rfl) (pe_fn (ok_common E) (hr.mono (by decide)) (by rfl) (pa_cons (pe_fn (ok_rests_of E) (hr.mono (by decide)) (by rfl) (pa_cons (pv 0) pa_nil)) (pa_cons (pe_fn (ok_rests_of E) (hr.mono (by decide)) (by rfl) (pa_cons (pv 1) pa_nil)) pa_nil))))
    (pss_one (ps_ret (pe_listRg rfl (by rfl) E.f_list (prg_2 (by rfl) E.f_range (pe_op op_sub (pe_un un_neg (pv 2)) (pv 3)) (pe_op op_add (pe_op op_add (pv 2) (pv 3)) pe_int)))))))), (FunD.bindsN F (fun _ _ _ _ _ _ us hl => match us, hl with | [_, _], _ => rfl)), E.g_window_of, F.kp⟩
end K28

set_option Elab.async false
set_option linter.all false
set_option maxRecDepth 100000
set_option maxHeartbeats 4000000
namespace K28
open PySem PySem.Spec PyProof.Rows L2
open Evl (Ex)

/-! ## the struck pairs, the answers -/
abbrev Kvs := List (List Key × V)
def kPair (p q : Nat) : List Key := [Sum.inl (p : Int), Sum.inl (q : Int)]
def stk (kvs : Kvs) (p q : Nat) : Bool := (valV kvs (kPair p q)).isSome
def endsOf (to : List (Nat × Int × Nat)) (s : Int) : List Nat := (to.filter fun o => decide (o.2.1 = s)).map fun o => o.2.2
def pr (b : Bool) (t e : Nat) : Nat × Nat := if b = true then (e, t) else (t, e)
/-- each move here is answered there by an unstruck pair -/
def Ans (kvs : Kvs) (b : Bool) (ho to : List (Nat × Int × Nat)) : Prop := ∀ o ∈ ho, ∃ e ∈ endsOf to o.2.1, stk kvs (pr b o.2.2 e).1 (pr b o.2.2 e).2 = false
theorem fm_at {α β : Type} (g : α → Option β) : ∀ l : List α, (List.range l.length).filterMap (fun i => l[i]?.bind g) = l.filterMap g
  | [] => rfl
  | c :: cs => by
    rw [List.length_cons, List.range_succ_eq_map, List.filterMap_cons, List.filterMap_map, List.filterMap_cons]
    have e : ((fun i => (c :: cs)[i]?.bind g) ∘ Nat.succ) = fun i => cs[i]?.bind g := by
      funext i
      rfl
    rw [e, fm_at g cs]
    cases q : g c with
    | none => simp [q]
    | some z => simp [q]
def sp_unanswered (w : World) (K : PySem.W.Frag) : Sp := fun vs H Q _ => ∃ (h t d : Addr) (b : Bool) (hs ts : List V) (ho to : List (Nat × Int × Nat)) (kvs : Kvs), vs = [.ref h, .ref t, .ref d, .bl b] ∧ H h = some (.lst hs) ∧ DtAll K H hs (ho.map optD) ∧
  H t = some (.lst ts) ∧ DtAll K H ts (to.map optD) ∧ to.length ≤ 60 ∧ H d = some (.dT kvs) ∧ ∀ H' v, Ex H H' → ((v = .non ∧ Ans kvs b ho to) ∨ ∃ a x y, v = .ref a ∧ SqT K H' a [x, y] ∧ ¬ Ans kvs b ho to) → Q v H'
def N_unanswered : List Str := ["here", "there", "struck", "is_turned", "index", "shift", "target", "ends", "number", "by", "end", "pairs", "pair"]
theorem sc_unanswered : FnScope N_unanswered ["here", "there", "struck", "is_turned"] (defScope s_unanswered) := ⟨rfl, rfl, rfl, by decide +kernel, rfl, by decide +kernel, by decide +kernel⟩
/-- names: 0 here 1 there 2 struck* 3 is_turned* 4 index 5 shift* 6 target* 7 ends 8 number 9 by 10 end 11 pairs 12 pair -/
def t_unanswered (P : Program) (w : World) (K : PySem.W.Frag) : TS :=
    (tSeq (tFor (iList K (tVar 0)) (gTup K 3 (gCons (gName 4) (gCons (gName 5) (gCons (gName 6) gNil))))
    (tSeq (tAsg (tLc (iList K (tVar 1)) (gTup K 3 (gCons (gName 8) (gCons (gName 9) (gCons (gName 10) gNil)))) (tTest (tOp rEq (tVar 9) (tVar 5))) (tVar 10) [8, 9, 10]) (gName 7))
    (tSeq (tAsg (tLc (iList K (tVar 7)) (gName 10) tYes (tIf (tB (tVar 3)) (tTup (tCons (tVar 10) (tCons (tVar 6) tNil))) (tTup (tCons (tVar 6) (tCons (tVar 10) tNil)))) [10]) (gName 11))
    (tIfS (tB (tCB (rAll K) (tCons (tLc (iList K (tVar 11)) (gName 12) tYes (tDIn (tVar 12) (tVar 2)) [12]) tNil)))
    (tRet (tTup (tCons (tVar 4) (tCons (tVar 11) tNil))))
    tNext))))
    (tRet (tC .non)))
section
variable {P : Program} {w : World} {K : PySem.W.Frag} {mg : Str → Option Value} (E : Ctx w K mg)
include E
theorem rd_unanswered (vs : List V) (H : Hp) (Q : VK) (E0 : XK) (h : sp_unanswered w K vs H Q E0) : vs.length = 4 ∧ t_unanswered P w K { nx := fun _ H' => Q .non H', rt := Q } (start N_unanswered vs) H := by
  obtain ⟨h, t, d, b, hs, ts, ho, to, kvs, rfl, hh, ah, ht, at_, lt, hd, q⟩ := h
  have lh := ah.1
  have ltt := at_.1
  rw [List.length_map] at lh ltt
  refine ⟨rfl, _, rfl, h, rfl, ⟨_, Evl.sq_of hh⟩, ?_⟩
  refine for_it (walk_list (xs := hs)) (fun i σ H' => (∃ x4 x5 x6 x7 x8 x9 x10 x11 x12, σ = [some (.ref h), some (.ref t), some (.ref d), some (.bl b), x4, x5, x6, x7, x8, x9, x10, x11, x12]) ∧ Ex H H' ∧ ∀ j o, j < i → ho[j]? = some o → ∃ e ∈ endsOf to o.2.1, stk kvs (pr b o.2.2 e).1 (pr b o.2.2 e).2 = false)
    ⟨⟨none, none, none, none, none, none, none, none, none, rfl⟩, .refl _, fun j o hj => absurd hj (Nat.not_lt_zero _)⟩ (fun i σ H' _ p => Evl.ex_l p.2.1 (Evl.sq_of hh)) ?_ ?_
  · rintro i x σ H1 H' hi ⟨⟨x4, x5, x6, x7, x8, x9, x10, x11, x12, rfl⟩, e1, sofar⟩ ⟨rfl, hx⟩
    have hlt : i < ho.length := by omega
    have hoi : ho[i]? = some ho[i] := List.getElem?_eq_getElem hlt
    generalize ho[i] = o at hoi
    have dx := (ah.2 i x _ hx (by rw [List.getElem?_map, hoi]; rfl)).tk (.ex e1)
    obtain ⟨a, xs, rfl, s, tt⟩ := dx.tupD
    obtain ⟨u, v, z, rfl, d1, d2, d3⟩ := tt.three
    rw [d1.intD, d2.intD, d3.intD] at s
    have mem : o ∈ ho := List.mem_of_getElem? hoi
    refine ⟨a, _, rfl, s, rfl, _, _, rfl, _, _, rfl, _, _, rfl, rfl, ?_⟩
    refine ⟨_, rfl, t, rfl, ⟨_, Evl.sq_of (e1 _ _ ht)⟩, fun D hD => ?_⟩
    refine lc_filt hD (walk_list (xs := ts)) (by omega) (fun j => to[j]?.bind fun o2 => if decide (o2.2.1 = o.2.1) = true then some (.int (o2.2.2 : Nat)) else none) (fun H' e => Evl.ex_l (e1.trans e) (Evl.sq_of ht)) ?_ ?_
    · rintro j y H2 H3 k k0 hj e2 ⟨rfl, hy⟩ kk kk0
      have htj : to[j]? = some (to[j]'(by omega)) := List.getElem?_eq_getElem (by omega)
      generalize to[j]'(by omega) = o2 at htj
      have dy := (at_.2 j y _ hy (by rw [List.getElem?_map, htj]; rfl)).tk (.ex (e1.trans e2))
      obtain ⟨a2, ys, rfl, s2, t2⟩ := dy.tupD
      obtain ⟨u2, v2, z2, rfl, f1, f2, f3⟩ := t2.three
      rw [f1.intD, f2.intD, f3.intD] at s2
      rw [htj] at kk kk0
      refine ⟨a2, _, rfl, s2, rfl, _, _, rfl, _, _, rfl, _, _, rfl, rfl, rfl, _, rfl, _, rfl, rfl, _, rfl, ?_⟩
      rw [eqI]
      refine ite2 (fun hp => ?_) fun hp => ?_
      · exact ⟨_, rfl, kk _ _ (if_pos hp) (.refl _)⟩
      · exact kk0 (if_neg hp) _ (.refl _)
    · intro H2 e2 hl2
      have ends : (List.range ts.length).filterMap (fun j => to[j]?.bind fun o2 => if decide (o2.2.1 = o.2.1) = true then some (V.int (o2.2.2 : Nat)) else none) = (endsOf to o.2.1).map fun e : Nat => V.int e := by
        rw [ltt, fm_at]
        unfold endsOf
        rw [List.map_map]
        exact fm_filter fun _ _ => rfl
      rw [ends] at hl2
      have lens : (endsOf to o.2.1).length ≤ 60 := by
        unfold endsOf
        rw [List.length_map]
        exact Nat.le_trans (List.length_filter_le _ _) lt
      refine ⟨_, rfl, D, rfl, ⟨_, Evl.sq_of hl2⟩, fun D2 hD2 => ?_⟩
      refine lc_map noS (fun _ z => z.elim) hD2 (walk_list (xs := (endsOf to o.2.1).map fun e : Nat => V.int e)) (by rw [List.length_map]; omega) (fun j v H' => ∃ p e, (endsOf to o.2.1)[j]? = some e ∧ v = .ref p ∧ H' p = some (.tup [.int ((pr b o.2.2 e).1 : Nat), .int ((pr b o.2.2 e).2 : Nat)])) (fun _ _ => True) (fun i H' e _ => Evl.ex_l e.ex (Evl.sq_of hl2)) trivial ?_ (fun _ _ _ _ _ _ => trivial) ?_ ?_ ?_
      · rintro j v H' zs ⟨ws, hw⟩ e ⟨p, en, q1, q2, q3⟩
        exact ⟨p, en, q1, q2, by rw [upd_ne (ne_of q3 hw (by intro z; cases z))]; exact q3⟩
      · exact fun j v H' H'' l hl e e3 _ _ ⟨p, en, q1, q2, q3⟩ => ⟨p, en, q1, q2, e3.ex _ _ q3⟩
      · rintro j y H3 H4 k hj hl e3 - ⟨rfl, hy⟩ kk
        rw [List.length_map] at hj
        rw [List.getElem?_map, List.getElem?_eq_getElem hj] at hy
        cases hy
        refine ⟨rfl, _, rfl, b, rfl, ?_⟩
        cases b with
        | true => exact ⟨_, rfl, _, rfl, (by show 2 ≤ sizeLine; decide), fun p hp => kk _ _ (.of (Ex.new hp)) ⟨p, _, List.getElem?_eq_getElem hj, rfl, upd_same⟩ trivial⟩
        | false => exact ⟨_, rfl, _, rfl, (by show 2 ≤ sizeLine; decide), fun p hp => kk _ _ (.of (Ex.new hp)) ⟨p, _, List.getElem?_eq_getElem hj, rfl, upd_same⟩ trivial⟩
      · intro acc H3 e3 hl3 len3 z3 _
        rw [List.length_map] at len3
        have e13 : Ex H H3 := (e1.trans e2).trans e3.ex
        refine ⟨_, rfl, D2, rfl, ⟨_, Evl.sq_of hl3⟩, fun D3 hD3 => ?_⟩
        refine lc_filt hD3 (walk_list (xs := acc)) (by omega) (fun j => (endsOf to o.2.1)[j]?.bind fun e => some (.bl (stk kvs (pr b o.2.2 e).1 (pr b o.2.2 e).2))) (fun H' e => Evl.ex_l e (Evl.sq_of hl3)) ?_ ?_
        · rintro j y H4 H5 k k0 hj e4 ⟨rfl, hy⟩ kk kk0
          obtain ⟨p, en, q1, rfl, q3⟩ := z3 j y hy
          rw [q1] at kk
          refine ⟨rfl, _, rfl, _, rfl, d, _, rfl, DGet.t (k := kPair (pr b o.2.2 en).1 (pr b o.2.2 en).2) ((e13.trans e4) _ _ hd) (e4 _ _ q3), kk _ _ rfl (.refl _)⟩
        · intro H4 e4 hl4
          rw [len3, fm_at] at hl4
          refine ⟨D3, (endsOf to o.2.1).map (fun e => stk kvs (pr b o.2.2 e).1 (pr b o.2.2 e).2), rfl, .inl (.inl ?_), ?_⟩
          · rw [hl4, List.map_map]
            congr 2
            exact fm_map fun _ _ => rfl
          · rw [List.all_map]
            refine ⟨_, rfl, ?_⟩
            by_cases all : (endsOf to o.2.1).all (id ∘ fun e => stk kvs (pr b o.2.2 e).1 (pr b o.2.2 e).2) = true
            · rw [all]
              refine ⟨_, rfl, _, rfl, (by show 2 ≤ sizeLine; decide), fun p hp => q _ _ ((e13.trans e4).trans (Ex.new hp)) (.inr ⟨p, _, _, rfl, Evl.st_of upd_same, fun hA => ?_⟩)⟩
              obtain ⟨en, m1, m2⟩ := hA o mem
              have := List.all_eq_true.mp all en m1
              simp only [Function.comp, id] at this
              rw [m2] at this
              cases this
            · rw [Bool.eq_false_iff.mpr all]
              refine ⟨⟨_, _, _, _, _, _, _, _, _, rfl⟩, e13.trans e4, fun j o2 hj ho2 => ?_⟩
              by_cases hji : j < i
              · exact sofar j o2 hji ho2
              · have : j = i := by omega
                subst this
                rw [hoi] at ho2
                cases ho2
                have na : ¬ ∀ e ∈ endsOf to o.2.1, stk kvs (pr b o.2.2 e).1 (pr b o.2.2 e).2 = true := fun z => all (List.all_eq_true.mpr z)
                by_cases ex : ∃ e ∈ endsOf to o.2.1, stk kvs (pr b o.2.2 e).1 (pr b o.2.2 e).2 = false
                · exact ex
                · exact absurd (fun e he => by
                    cases q : stk kvs (pr b o.2.2 e).1 (pr b o.2.2 e).2 with
                    | true => rfl
                    | false => exact absurd ⟨e, he, q⟩ ex) na
  · rintro σ H' ⟨_, e1, sofar⟩
    refine q H' _ e1 (.inl ⟨rfl, fun o ho' => ?_⟩)
    obtain ⟨j, hj, rfl⟩ := List.getElem_of_mem ho'
    exact sofar j _ (by omega) (List.getElem?_eq_getElem hj)
end
theorem ok_unanswered {P : Program} {w : World} {K : PySem.W.Frag} {mg : Str → Option Value} {base : Heap} (E : Ctx w K mg) : DefOk P w K mg base "unanswered" [("here" : Str), ("there" : Str), ("struck" : Str), ("is_turned" : Str)] 1 (sp_unanswered w K) := by
  obtain ⟨fd, F⟩ := E.D_unanswered
  exact ⟨_, fd, fn_mk (t := t_unanswered P w K) F sc_unanswered (rd_unanswered E) (fun cdv A outer s H E0 hr => (pss_cons (ps_for PassesOwn.never rfl (pi_list (pv 0)) (pg_tup rfl (pgs_cons (pg_name (i := 4) sc_unanswered.nd rfl (Or.inl rfl)) (pgs_cons (pg_name (i := 5) sc_unanswered.nd rfl (Or.inr rfl)) (pgs_cons (pg_name (i := 6) sc_unanswered.nd rfl (Or.inr rfl)) pgs_nil))))
    (pss_cons (ps_setLc (i := 7) (own := [("number", 8), ("by", 9), ("end", 10)]) (wi := (iList K (tVar 1))) (g := (gTup K 3 (gCons (gName 8) (gCons (gName 9) (gCons (gName 10) gNil))))) (tt := (tTest (tOp rEq (tVar 9) (tVar 5)))) (te := (tVar 10)) rfl sc_unanswered.nd rfl rfl (sw_true rfl rfl rfl (by decide +kernel)) (pi_list (pv 1)) (blkOk_by (own := [("number", 8), ("by", 9), ("end", 10)]) (N := N_unanswered) (sc := defScope s_unanswered) (by decide +kernel)) (fun _ _ _ _ _ => (pg_tup rfl (pgs_cons (pg_name (i := 8) sc_unanswered.nd rfl (Or.inl rfl)) (pgs_cons (pg_name (i := 9) sc_unanswered.nd rfl (Or.inl rfl)) (pgs_cons (pg_name (i := 10) sc_unanswered.nd rfl (Or.inl rfl)) pgs_nil))))) (fun _ _ _ _ _ => (pts_one (pt_cmpR op_eq (pv 9) (pv 5) (nomark _)))) (fun _ _ _ _ _ => (pv 10)))
    (pss_cons (ps_setLc (i := 11) (own := [("end", 10)]) (wi := (iList K (tVar 7))) (g := (gName 10)) (tt := tYes) (te := (tIf (tB (tVar 3)) (tTup (tCons (tVar 10) (tCons (tVar 6) tNil))) (tTup (tCons (tVar 6) (tCons (tVar 10) tNil))))) rfl sc_unanswered.nd rfl rfl (sw_true rfl rfl rfl (by decide +kernel)) (pi_list (pv 7)) (blkOk_by (own := [("end", 10)]) (N := N_unanswered) (sc := defScope s_unanswered) (by decide +kernel)) (fun _ _ _ _ _ => (pg_name (i := 10) sc_unanswered.nd rfl (Or.inl rfl))) (fun _ _ _ _ _ => pts_nil) (fun _ _ _ _ _ => (pe_ifExp (pt_val (pv 3)) (pe_tup (pa_cons (pv 10) (pa_cons (pv 6) pa_nil))) (pe_tup (pa_cons (pv 6) (pa_cons (pv 10) pa_nil))))))
    (pss_one (ps_if (pt_val (pe_callB (cr_all rfl) (by rfl) E.f_all (by decide +kernel) (pa_cons (pe_lc (own := [("pair", 12)]) (wi := (iList K (tVar 11))) (g := (gName 12)) (tt := tYes) (te := (tDIn (tVar 12) (tVar 2))) rfl sc_unanswered.nd (pi_list (pv 11)) (blkOk_by (own := [("pair", 12)]) (N := N_unanswered) (sc := defScope s_unanswered) (by decide +kernel)) (fun _ _ _ _ _ => (pg_name (i := 12) sc_unanswered.nd rfl (Or.inl rfl))) (fun _ _ _ _ _ => pts_nil) (fun _ _ _ _ _ => (pe_cmp (pc_din (hu_of hr) (pv 12) (pv 2))))) pa_nil)))
    (pss_one (ps_ret (pe_tup (pa_cons (pv 4) (pa_cons (pv 11) pa_nil)))))
    pss_nil)))))
    (pss_one (ps_ret pe_non)))), (FunD.bindsN F (fun _ _ _ _ _ _ us hl => match us, hl with | [_, _, _, _], _ => rfl)), E.g_unanswered, F.kp⟩
end K28

set_option Elab.async false
set_option linter.all false
set_option maxRecDepth 100000
set_option maxHeartbeats 4000000
namespace K28
open PySem PySem.Spec PyProof.Rows L2
open Evl (Ex)

def fStr (a b : V) (d l : Addr) : List (Str × V) := [("one", a), ("other", b), ("struck", .ref d), ("sheets", .ref l)]
def winI (A B : Bk) : List Int := (List.range ((wB A B + (wR A B : Nat) + 1) - (-wB A B - (wR A B : Nat))).toNat).map fun i => -wB A B - (wR A B : Nat) + (i : Nat)
theorem wins_eq (A B : Bk) : wins A B = (winI A B).map V.int := by
  unfold wins winI rgV
  rw [List.map_map]
  rfl
def Sheet (K : PySem.W.Frag) (S : Addr → Prop) (H : Hp) (v : V) (A B : Bk) (n : Int) : Prop := ∃ T lf rt ls rs, v = .ref T ∧ SqT K H T [.int n, .ref lf, .ref rt] ∧ S lf ∧ S rt ∧ H lf = some (.lst ls) ∧ H rt = some (.lst rs) ∧ ls.length = A.sides.length ∧ rs.length = B.sides.length ∧
  (∀ (p : Nat) (v : V), ls[p]? = some v → OptV K S H v A p n) ∧ ∀ (p : Nat) (v : V), rs[p]? = some v → OptV K S H v B p n
def Sheets (K : PySem.W.Frag) (S : Addr → Prop) (H : Hp) (l : Addr) (A B : Bk) : Prop := ∃ shs, H l = some (.lst shs) ∧ shs.length = (winI A B).length ∧ ∀ (i : Nat) (v : V) (n : Int), shs[i]? = some v → (winI A B)[i]? = some n → Sheet K S H v A B n
def IsStk (K : PySem.W.Frag) (H : Hp) (self : Addr) (A B : Bk) (kvs : Kvs) : Prop := ∃ dx a b d l, H self = some (.ins (He.ga K "Strikes") dx (fStr a b d l)) ∧ IsBk K H a A ∧ IsBk K H b B ∧ H d = some (.dT kvs) ∧ Sheets K (fun _ => True) H l A B
def Okp (kvs : Kvs) (A B : Bk) (p q : Nat) : Prop := A.sides[p]? = B.sides[q]? ∧ ∀ n ∈ winI A B, A.goal p n = B.goal q n ∧ (A.goal p n = false → Ans kvs false (A.opts p n) (B.opts q n) ∧ Ans kvs true (B.opts q n) (A.opts p n))
section
variable {K : PySem.W.Frag} {H H' : Hp}
theorem OptV.tr {S : Addr → Prop} {v : V} {B : Bk} {p : Nat} {n : Int} (h : OptV K S H v B p n) : OptV K (fun _ => True) H v B p n := h.mono fun _ _ => trivial
theorem optV_non {S : Addr → Prop} {v : V} {B : Bk} {p : Nat} {n : Int} (h : OptV K S H v B p n) : decide (v = .non) = B.goal p n := by
  unfold OptV at h
  by_cases g : B.goal p n = true
  · rw [if_pos g] at h
    rw [g]
    exact decide_eq_true h
  · rw [if_neg g] at h
    obtain ⟨l, ts, rfl, _⟩ := h
    rw [Bool.eq_false_iff.mpr g]
    exact decide_eq_false (fun z => by cases z)
theorem optV_lst {S : Addr → Prop} {v : V} {B : Bk} {p : Nat} {n : Int} (h : OptV K S H v B p n) (g : B.goal p n = false) : ∃ l ts, v = .ref l ∧ S l ∧ H l = some (.lst ts) ∧ DtAll K H ts ((B.opts p n).map optD) := by
  unfold OptV at h
  rw [if_neg (by rw [g]; exact Bool.false_ne_true)] at h
  exact h
theorem Sheet.frm {S F : Addr → Prop} (e : Frm F H H') (t : TupK K H H') (nS : ∀ a, S a → ¬ F a) {v : V} {A B : Bk} {n : Int} (h : Sheet K S H v A B n) : Sheet K S H' v A B n := by
  obtain ⟨T, lf, rt, ls, rs, h1, h2, h3, h4, h5, h6, h7, h8, h9, h10⟩ := h
  exact ⟨T, lf, rt, ls, rs, h1, t _ _ h2, h3, h4, e _ _ (nS _ h3) h5, e _ _ (nS _ h4) h6, h7, h8, fun p v q => (h9 p v q).frm e t nS, fun p v q => (h10 p v q).frm e t nS⟩
theorem opts_len {B : Bk} (ok : B.Ok) (p : Nat) (n : Int) : (B.opts p n).length ≤ 60 := by
  unfold Bk.opts Bk.opn
  rw [List.length_map]
  have h := List.length_filter_le (B.mvAt p n) (List.range B.moves.length)
  rw [List.length_range] at h
  exact Nat.le_trans h ok.m1
end
def sp_Strikes_is_struck (w : World) (K : PySem.W.Frag) : Sp := fun vs H Q _ => ∃ (self dx d l : Addr) (a b : V) (p q : Nat) (kvs : Kvs), vs = [.ref self, .int p, .int q] ∧ H self = some (.ins (He.ga K "Strikes") dx (fStr a b d l)) ∧ H d = some (.dT kvs) ∧ ∀ H', Ex H H' → Q (.bl (stk kvs p q)) H'
def sp_Strikes_reason (w : World) (K : PySem.W.Frag) : Sp := fun vs H Q _ => ∃ (self : Addr) (p q : Nat) (A B : Bk) (kvs : Kvs), vs = [.ref self, .int p, .int q] ∧ IsStk K H self A B kvs ∧ A.Ok ∧ B.Ok ∧ p < A.sides.length ∧ q < B.sides.length ∧
  ∀ H' v, Ex H H' → ((v = .non ∧ Okp kvs A B p q) ∨ ∃ a, v = .ref a ∧ ¬ Okp kvs A B p q) → Q v H'
def N_Strikes_is_struck : List Str := ["self", "place", "other"]
theorem sc_Strikes_is_struck : FnScope N_Strikes_is_struck ["self", "place", "other"] (defScope s_Strikes_is_struck) := ⟨rfl, rfl, rfl, by decide +kernel, rfl, by decide +kernel, by decide +kernel⟩
/-- names: 0 self 1 place 2 other -/
def t_Strikes_is_struck (P : Program) (w : World) (K : PySem.W.Frag) : TS :=
    (tRet (tDIn (tTup (tCons (tVar 1) (tCons (tVar 2) tNil))) (tFld K (tVar 0) ("struck" : Str))))
def N_Strikes_reason : List Str := ["self", "place", "other", "count", "left", "right", "here", "there", "found"]
theorem sc_Strikes_reason : FnScope N_Strikes_reason ["self", "place", "other"] (defScope s_Strikes_reason) := ⟨rfl, rfl, rfl, by decide +kernel, rfl, by decide +kernel, by decide +kernel⟩
/-- names: 0 self 1 place 2 other 3 count 4 left 5 right 6 here 7 there 8 found -/
def t_Strikes_reason (P : Program) (w : World) (K : PySem.W.Frag) : TS :=
    (tSeq (tIfS (tTest (tOp rNe (tOp (rIxT K) (tFld K (tFld K (tVar 0) ("one" : Str)) ("sides" : Str)) (tVar 1)) (tOp (rIxT K) (tFld K (tFld K (tVar 0) ("other" : Str)) ("sides" : Str)) (tVar 2))))
    (tRet (tTup (tCons (tC (.str "side")) (tCons (tC (.int 0)) (tCons (tC .non) (tCons (tLst tNil) tNil))))))
    tNext)
    (tSeq (tFor (iList K (tFld K (tVar 0) ("sheets" : Str))) (gTup K 3 (gCons (gName 3) (gCons (gName 4) (gCons (gName 5) gNil))))
    (tSeq (tPar 6 7 (tCons (tOp (rIxL K) (tVar 4) (tVar 1)) (tCons (tOp (rIxL K) (tVar 5) (tVar 2)) tNil)))
    (tSeq (tIfS (tTest (tOp rNe (tOp rIsNn (tVar 6) (tC .non)) (tOp rIsNn (tVar 7) (tC .non))))
    (tRet (tTup (tCons (tC (.str "goal")) (tCons (tVar 3) (tCons (tC .non) (tCons (tLst tNil) tNil))))))
    tNext)
    (tIfS (tTest (tOp rNotNn (tVar 6) (tC .non)))
    (tSeq (tAsg (tFn (sp_unanswered w K) (tCons (tVar 6) (tCons (tVar 7) (tCons (tFld K (tVar 0) ("struck" : Str)) (tCons (tC (.bl false)) tNil))))) (gName 8))
    (tSeq (tIfS (tTest (tOp rNotNn (tVar 8) (tC .non)))
    (tRet (tTup (tCons (tC (.str "move")) (tCons (tVar 3) (tCons (tOp (rIxT K) (tVar 8) (tC (.int 0))) (tCons (tOp (rIxT K) (tVar 8) (tC (.int 1))) tNil))))))
    tNext)
    (tSeq (tAsg (tFn (sp_unanswered w K) (tCons (tVar 7) (tCons (tVar 6) (tCons (tFld K (tVar 0) ("struck" : Str)) (tCons (tC (.bl true)) tNil))))) (gName 8))
    (tIfS (tTest (tOp rNotNn (tVar 8) (tC .non)))
    (tRet (tTup (tCons (tC (.str "answer")) (tCons (tVar 3) (tCons (tOp (rIxT K) (tVar 8) (tC (.int 0))) (tCons (tOp (rIxT K) (tVar 8) (tC (.int 1))) tNil))))))
    tNext))))
    tNext))))
    (tRet (tC .non))))
section
variable {P : Program} {w : World} {K : PySem.W.Frag} {mg : Str → Option Value} (E : Ctx w K mg)
include E
theorem rd_Strikes_is_struck (vs : List V) (H : Hp) (Q : VK) (E0 : XK) (h : sp_Strikes_is_struck w K vs H Q E0) : vs.length = 3 ∧ t_Strikes_is_struck P w K { nx := fun _ H' => Q .non H', rt := Q } (start N_Strikes_is_struck vs) H := by
  obtain ⟨self, dx, d, l, a, b, p, q, kvs, rfl, hs, hd, k⟩ := h
  refine ⟨rfl, _, rfl, _, rfl, (by show 2 ≤ sizeLine; decide), fun T hT => ?_⟩
  have e : Ex H (upd H T (.tup [.int p, .int q])) := Ex.new hT
  exact ⟨_, rfl, self, _, dx, _, _, rfl, e _ _ hs, E.cls_Strikes, E.na_Strikes_struck, rfl, d, _, rfl, DGet.t (k := kPair p q) (e _ _ hd) upd_same, k _ e⟩
theorem rd_Strikes_reason (vs : List V) (H : Hp) (Q : VK) (E0 : XK) (h : sp_Strikes_reason w K vs H Q E0) : vs.length = 3 ∧ t_Strikes_reason P w K { nx := fun _ H' => Q .non H', rt := Q } (start N_Strikes_reason vs) H := by
  obtain ⟨self, p, q, A, B, kvs, rfl, hst, oA, oB, hp, hq, k⟩ := h
  obtain ⟨dx, a, b, d, l, hs, hA, hB, hd, shs, hl, len, all⟩ := hst
  obtain ⟨aa, adx, asa, ama, aga, ams, ags, rfl, ha1, ha2, _⟩ := id hA
  obtain ⟨ba, bdx, bsa, bma, bga, bms, bgs, rfl, hb1, hb2, _⟩ := id hB
  have ap : (A.sides.map V.int)[p]? = some (.int A.sides[p]) := by rw [List.getElem?_map, List.getElem?_eq_getElem hp]; rfl
  have bq : (B.sides.map V.int)[q]? = some (.int B.sides[q]) := by rw [List.getElem?_map, List.getElem?_eq_getElem hq]; rfl
  have sdA : A.sides[p]? = some A.sides[p] := List.getElem?_eq_getElem hp
  have sdB : B.sides[q]? = some B.sides[q] := List.getElem?_eq_getElem hq
  refine ⟨rfl, _, rfl, self, _, dx, _, _, rfl, hs, E.cls_Strikes, E.na_Strikes_one, rfl, aa, _, adx, _, _, rfl, ha1, E.cls_Book, E.na_Book_sides, rfl, _, rfl, asa, _, (p : Nat), _, rfl, rfl, ha2, atI_nat ap, ?_⟩
  refine ⟨_, rfl, self, _, dx, _, _, rfl, hs, E.cls_Strikes, E.na_Strikes_other, rfl, ba, _, bdx, _, _, rfl, hb1, E.cls_Book, E.na_Book_sides, rfl, _, rfl, bsa, _, (q : Nat), _, rfl, rfl, hb2, atI_nat bq, rfl, _, rfl, ?_⟩
  rw [eqI]
  by_cases sd : A.sides[p] = B.sides[q]
  · rw [decide_eq_true sd]
    have wl : (winI A B).length ≤ 100000 := by
      obtain ⟨u1, u2⟩ := bound_bd oA
      obtain ⟨v1, v2⟩ := bound_bd oB
      obtain ⟨z1, z2⟩ := pos_of_six (Nat.lcm_dvd (rests_six oA) (rests_six oB))
      have z3 : 1 ≤ wR A B := z1
      have z4 : wR A B ≤ 6 := z2
      have w1 : 0 ≤ wB A B ∧ wB A B ≤ 9 := by
        unfold wB
        split <;> omega
      unfold winI
      rw [List.length_map, List.length_range]
      omega
    refine ⟨_, rfl, self, _, dx, _, _, rfl, hs, E.cls_Strikes, E.na_Strikes_sheets, rfl, l, rfl, ⟨_, Evl.sq_of hl⟩, ?_⟩
    refine for_it (walk_list (xs := shs)) (fun i σ H' => (∃ x3 x4 x5 x6 x7 x8, σ = [some (.ref self), some (.int (p : Nat)), some (.int (q : Nat)), x3, x4, x5, x6, x7, x8]) ∧ Ex H H' ∧ ∀ j n, j < i → (winI A B)[j]? = some n → A.goal p n = B.goal q n ∧ (A.goal p n = false → Ans kvs false (A.opts p n) (B.opts q n) ∧ Ans kvs true (B.opts q n) (A.opts p n)))
      ⟨⟨none, none, none, none, none, none, rfl⟩, .refl _, fun j n hj => absurd hj (Nat.not_lt_zero _)⟩ (fun i σ H' _ z => Evl.ex_l z.2.1 (Evl.sq_of hl)) ?_ ?_
    · rintro i x σ H1 H' hi ⟨⟨x3, x4, x5, x6, x7, x8, rfl⟩, e1, sofar⟩ ⟨rfl, hx⟩
      have hni : (winI A B)[i]? = some ((winI A B)[i]'(by omega)) := List.getElem?_eq_getElem (by omega)
      generalize (winI A B)[i]'(by omega) = n at hni
      have memn : n ∈ winI A B := List.mem_of_getElem? hni
      have sh : Sheet K (fun _ => True) H' x A B n := (all i x n hx hni).frm (F := noS) (.of e1) (.ex e1) fun _ _ z => z
      obtain ⟨T, lf, rt, ls, rs, rfl, sT, _, _, hlf, hrt, ll, lr, hL, hR⟩ := sh
      have lp : ls[p]? = some (ls[p]'(by omega)) := List.getElem?_eq_getElem (by omega)
      have rq : rs[q]? = some (rs[q]'(by omega)) := List.getElem?_eq_getElem (by omega)
      have oL := hL p _ lp
      have oR := hR q _ rq
      generalize ls[p]'(by omega) = hv at lp oL
      generalize rs[q]'(by omega) = tv at rq oR
      refine ⟨T, _, rfl, sT, rfl, _, _, rfl, _, _, rfl, _, _, rfl, rfl, ?_⟩
      refine ⟨_, rfl, _, rfl, lf, ls, (p : Nat), _, rfl, rfl, Evl.sq_of hlf, atI_nat lp, _, rfl, _, rfl, rt, rs, (q : Nat), _, rfl, rfl, Evl.sq_of hrt, atI_nat rq, _, _, rfl, ?_⟩
      refine ⟨_, rfl, rfl, _, rfl, rfl, rfl, _, rfl, ?_⟩
      rw [eqB, optV_non oL, optV_non oR]
      by_cases gg : A.goal p n = B.goal q n
      · rw [decide_eq_true gg]
        refine ⟨_, rfl, rfl, _, rfl, ?_⟩
        rw [optV_non oL]
        cases gA : A.goal p n with
        | true =>
          refine ⟨⟨_, _, _, _, _, _, rfl⟩, e1, fun j m hj hm => ?_⟩
          by_cases hji : j < i
          · exact sofar j m hji hm
          · have : j = i := by omega
            subst this
            rw [hni] at hm
            cases hm
            exact ⟨gg, fun z => by rw [gA] at z; cases z⟩
        | false =>
          have gB : B.goal q n = false := by rw [← gg]; exact gA
          obtain ⟨l1, t1, rfl, _, hl1, d1⟩ := optV_lst oL gA
          obtain ⟨l2, t2, rfl, _, hl2, d2⟩ := optV_lst oR gB
          refine ⟨_, rfl, _, rfl, _, rfl, self, _, dx, _, _, rfl, e1 _ _ hs, E.cls_Strikes, E.na_Strikes_struck, rfl, l1, l2, d, false, t1, t2, _, _, kvs, rfl, hl1, d1, hl2, d2, opts_len oB q n, e1 _ _ hd, fun H2 v2 e2 r2 => ?_⟩
          rcases r2 with ⟨rfl, an1⟩ | ⟨ua, ux, uy, rfl, us, nan⟩
          · refine ⟨_, rfl, rfl, _, rfl, ?_⟩
            refine ⟨_, rfl, _, rfl, _, rfl, self, _, dx, _, _, rfl, (e1.trans e2) _ _ hs, E.cls_Strikes, E.na_Strikes_struck, rfl, l2, l1, d, true, t2, t1, _, _, kvs, rfl, e2 _ _ hl2, d2.tk (.ex e2), e2 _ _ hl1, d1.tk (.ex e2), opts_len oA p n, (e1.trans e2) _ _ hd, fun H3 v3 e3 r3 => ?_⟩
            rcases r3 with ⟨rfl, an2⟩ | ⟨ua, ux, uy, rfl, us, nan⟩
            · refine ⟨_, rfl, rfl, _, rfl, ⟨_, _, _, _, _, _, rfl⟩, (e1.trans e2).trans e3, fun j m hj hm => ?_⟩
              by_cases hji : j < i
              · exact sofar j m hji hm
              · have : j = i := by omega
                subst this
                rw [hni] at hm
                cases hm
                exact ⟨gg, fun _ => ⟨an1, an2⟩⟩
            · refine ⟨_, rfl, rfl, _, rfl, _, rfl, _, rfl, ua, _, 0, _, rfl, rfl, us, rfl, _, rfl, ua, _, 1, _, rfl, rfl, us, rfl, (by show 4 ≤ sizeLine; decide), fun T2 hT2 => k _ _ (((e1.trans e2).trans e3).trans (Ex.new hT2)) (.inr ⟨T2, rfl, fun z => nan ((z.2 n memn).2 gA).2⟩)⟩
          · refine ⟨_, rfl, rfl, _, rfl, _, rfl, _, rfl, ua, _, 0, _, rfl, rfl, us, rfl, _, rfl, ua, _, 1, _, rfl, rfl, us, rfl, (by show 4 ≤ sizeLine; decide), fun T2 hT2 => k _ _ ((e1.trans e2).trans (Ex.new hT2)) (.inr ⟨T2, rfl, fun z => nan ((z.2 n memn).2 gA).1⟩)⟩
      · rw [decide_eq_false gg]
        exact ⟨_, rfl, (by show 0 ≤ sizeLine; decide), fun L hL => ⟨(by show 4 ≤ sizeLine; decide), fun T2 hT2 => k _ _ ((e1.trans (Ex.new hL)).trans (Ex.new hT2)) (.inr ⟨T2, rfl, fun z => gg (z.2 n memn).1⟩)⟩⟩
    · rintro σ H' ⟨_, e1, sofar⟩
      refine k H' _ e1 (.inl ⟨rfl, ?_, fun n hn => ?_⟩)
      · rw [sdA, sdB, sd]
      · obtain ⟨j, hj, rfl⟩ := List.getElem_of_mem hn
        exact sofar j _ (by omega) (List.getElem?_eq_getElem hj)
  · rw [decide_eq_false sd]
    exact ⟨(by show 0 ≤ sizeLine; decide), fun L hL => ⟨(by show 4 ≤ sizeLine; decide), fun T2 hT2 => k _ _ ((Ex.new hL).trans (Ex.new hT2)) (.inr ⟨T2, rfl, fun z => sd (by have z1 := z.1; rw [sdA, sdB] at z1; exact Option.some.inj z1)⟩)⟩⟩
end
theorem ok_Strikes_is_struck {P : Program} {w : World} {K : PySem.W.Frag} {mg : Str → Option Value} {base : Heap} (E : Ctx w K mg) : MthOk P w K mg base (He.ga K "Strikes") "is_struck" [("self" : Str), ("place" : Str), ("other" : Str)] 1 (sp_Strikes_is_struck w K) := by
  obtain ⟨fd, F⟩ := E.D_Strikes_is_struck
  exact ⟨_, fd, fn_mk (t := t_Strikes_is_struck P w K) F sc_Strikes_is_struck (rd_Strikes_is_struck E) (fun cdv A outer s H E0 hr => (pss_one (ps_ret (pe_cmp (pc_din (hu_of hr) (pe_tup (pa_cons (pv 1) (pa_cons (pv 2) pa_nil))) (pe_fld (pv 0) rfl)))))), (FunD.bindsN F (fun _ _ _ _ _ _ us hl => match us, hl with | [_, _, _], _ => rfl)), E.m_Strikes_is_struck⟩
theorem ok_Strikes_reason {P : Program} {w : World} {K : PySem.W.Frag} {mg : Str → Option Value} {base : Heap} (E : Ctx w K mg) : MthOk P w K mg base (He.ga K "Strikes") "reason" [("self" : Str), ("place" : Str), ("other" : Str)] 2 (sp_Strikes_reason w K) := by
  obtain ⟨fd, F⟩ := E.D_Strikes_reason
  exact ⟨_, fd, fn_mk (t := t_Strikes_reason P w K) F sc_Strikes_reason (rd_Strikes_reason E) (fun cdv A outer s H E0 hr => (pss_cons (ps_if (pt_cmpR op_ne (pe_ix ix_tup (pe_fld (pe_fld (pv 0) rfl) rfl) (pv 1) (fun _ _ => rfl)) (pe_ix ix_tup (pe_fld (pe_fld (pv 0) rfl) rfl) (pv 2) (fun _ _ => rfl)) (nomark _))
    (pss_one (ps_ret (pe_tup (pa_cons pe_str (pa_cons pe_int (pa_cons pe_non (pa_cons (pe_lst pa_nil) pa_nil)))))))
    pss_nil)
    (pss_cons (ps_for PassesOwn.never rfl (pi_list (pe_fld (pv 0) rfl)) (pg_tup rfl (pgs_cons (pg_name (i := 3) sc_Strikes_reason.nd rfl (Or.inl rfl)) (pgs_cons (pg_name (i := 4) sc_Strikes_reason.nd rfl (Or.inl rfl)) (pgs_cons (pg_name (i := 5) sc_Strikes_reason.nd rfl (Or.inl rfl)) pgs_nil))))
    (pss_cons (ps_par (i := 6) (j := 7) rfl sc_Strikes_reason.nd rfl rfl (by decide) rfl rfl (pa_cons (pe_ix ix_list (pv 4) (pv 1) (fun _ _ => rfl)) (pa_cons (pe_ix ix_list (pv 5) (pv 2) (fun _ _ => rfl)) pa_nil)) rfl)
    (pss_cons (ps_if (pt_cmpR op_ne (pe_cmpR op_isN (pv 6) pe_non (nomark _)) (pe_cmpR op_isN (pv 7) pe_non (nomark _)) (nomark _))
    (pss_one (ps_ret (pe_tup (pa_cons pe_str (pa_cons (pv 3) (pa_cons pe_non (pa_cons (pe_lst pa_nil) pa_nil)))))))
    pss_nil)
    (pss_one (ps_if (pt_cmpR op_notN (pv 6) pe_non (nomark _))
    (pss_cons (ps_set (i := 8) sc_Strikes_reason.nd rfl (Or.inl rfl) (pe_fn (ok_unanswered E) (hr.mono (by decide)) (by rfl) (pa_cons (pv 6) (pa_cons (pv 7) (pa_cons (pe_fld (pv 0) rfl) (pa_cons pe_bl pa_nil))))))
    (pss_cons (ps_if (pt_cmpR op_notN (pv 8) pe_non (nomark _))
    (pss_one (ps_ret (pe_tup (pa_cons pe_str (pa_cons (pv 3) (pa_cons (pe_ix ix_tup (pv 8) pe_int (fun _ _ => rfl)) (pa_cons (pe_ix ix_tup (pv 8) pe_int (fun _ _ => rfl)) pa_nil)))))))
    pss_nil)
    (pss_cons (ps_set (i := 8) sc_Strikes_reason.nd rfl (Or.inl rfl) (pe_fn (ok_unanswered E) (hr.mono (by decide)) (by rfl) (pa_cons (pv 7) (pa_cons (pv 6) (pa_cons (pe_fld (pv 0) rfl) (pa_cons pe_bl pa_nil))))))
    (pss_one (ps_if (pt_cmpR op_notN (pv 8) pe_non (nomark _))
    (pss_one (ps_ret (pe_tup (pa_cons pe_str (pa_cons (pv 3) (pa_cons (pe_ix ix_tup (pv 8) pe_int (fun _ _ => rfl)) (pa_cons (pe_ix ix_tup (pv 8) pe_int (fun _ _ => rfl)) pa_nil)))))))
    pss_nil)))))
    pss_nil)))))
    (pss_one (ps_ret pe_non))))), (FunD.bindsN F (fun _ _ _ _ _ _ us hl => match us, hl with | [_, _, _], _ => rfl)), E.m_Strikes_reason⟩
end K28

set_option Elab.async false
set_option linter.all false
set_option maxRecDepth 100000
set_option maxHeartbeats 4000000
namespace K28
open PySem PySem.Spec PyProof.Rows L2
open Evl (Ex)

/-! ## greatest likeness over the window -/
def StepOk (A B : Bk) (R : Nat → Nat → Prop) (p q : Nat) (n : Int) : Prop := A.goal p n = B.goal q n ∧ (A.goal p n = false → (∀ o ∈ A.opts p n, ∃ u ∈ B.opts q n, u.2.1 = o.2.1 ∧ R o.2.2 u.2.2) ∧ ∀ u ∈ B.opts q n, ∃ o ∈ A.opts p n, o.2.1 = u.2.1 ∧ R o.2.2 u.2.2)
def IsSim (A B : Bk) (R : Nat → Nat → Prop) : Prop := ∀ p q, R p q → p < A.sides.length ∧ q < B.sides.length ∧ A.sides[p]? = B.sides[q]? ∧ ∀ n ∈ winI A B, StepOk A B R p q n
def Lk (A B : Bk) (p q : Nat) : Prop := ∃ R, IsSim A B R ∧ R p q
theorem opts_lt {B : Bk} (ok : B.Ok) {p : Nat} {n : Int} {o : Nat × Int × Nat} (h : o ∈ B.opts p n) : o.2.2 < B.sides.length := by
  unfold Bk.opts at h
  obtain ⟨i, hi, rfl⟩ := List.mem_map.mp h
  unfold Bk.opn at hi
  have hl : i < B.moves.length := by simpa using (List.mem_filter.mp hi).1
  rw [optOf_of (List.getElem?_eq_getElem hl)]
  exact (ok.m _ (List.getElem_mem hl)).t
theorem mem_ends {to : List (Nat × Int × Nat)} {s : Int} {e : Nat} : e ∈ endsOf to s ↔ ∃ u ∈ to, u.2.1 = s ∧ u.2.2 = e := by
  unfold endsOf
  rw [List.mem_map]
  constructor
  · rintro ⟨u, hu, rfl⟩
    obtain ⟨h1, h2⟩ := List.mem_filter.mp hu
    exact ⟨u, h1, of_decide_eq_true h2, rfl⟩
  · rintro ⟨u, hu, h1, h2⟩
    exact ⟨u, List.mem_filter.mpr ⟨hu, decide_eq_true h1⟩, h2⟩
theorem sim_ok {A B : Bk} {R : Nat → Nat → Prop} {kvs : Kvs} (h : IsSim A B R) (n : ∀ p q, R p q → stk kvs p q = false) {p q : Nat} (r : R p q) : Okp kvs A B p q := by
  obtain ⟨_, _, s, w⟩ := h p q r
  refine ⟨s, fun i hi => ⟨(w i hi).1, fun g => ⟨fun o ho => ?_, fun u hu => ?_⟩⟩⟩
  · obtain ⟨u, hu, e, r2⟩ := ((w i hi).2 g).1 o ho
    exact ⟨u.2.2, mem_ends.mpr ⟨u, hu, e, rfl⟩, n _ _ r2⟩
  · obtain ⟨o, ho, e, r2⟩ := ((w i hi).2 g).2 u hu
    exact ⟨o.2.2, mem_ends.mpr ⟨o, ho, e, rfl⟩, n _ _ r2⟩
theorem ok_sim {A B : Bk} {kvs : Kvs} (oA : A.Ok) (oB : B.Ok) (h : ∀ p q, p < A.sides.length → q < B.sides.length → stk kvs p q = false → Okp kvs A B p q) : IsSim A B fun p q => p < A.sides.length ∧ q < B.sides.length ∧ stk kvs p q = false := by
  rintro p q ⟨hp, hq, hs⟩
  obtain ⟨s, w⟩ := h p q hp hq hs
  refine ⟨hp, hq, s, fun i hi => ⟨(w i hi).1, fun g => ⟨fun o ho => ?_, fun u hu => ?_⟩⟩⟩
  · obtain ⟨e, he, z⟩ := ((w i hi).2 g).1 o ho
    obtain ⟨u, hu, e1, e2⟩ := mem_ends.mp he
    refine ⟨u, hu, e1, opts_lt oA ho, opts_lt oB hu, ?_⟩
    rw [e2]
    exact z
  · obtain ⟨e, he, z⟩ := ((w i hi).2 g).2 u hu
    obtain ⟨o, ho, e1, e2⟩ := mem_ends.mp he
    refine ⟨o, ho, e1, opts_lt oA ho, opts_lt oB hu, ?_⟩
    rw [e2]
    exact z
/-- unstruck pairs -/
def cnt (A B : Bk) (kvs : Kvs) : Nat := (List.range (A.sides.length * B.sides.length)).countP fun k => !stk kvs (k / B.sides.length) (k % B.sides.length)
theorem countP_less {f g : Nat → Bool} {k : Nat} : ∀ {l : List Nat}, (∀ x, g x = true → f x = true) → k ∈ l → f k = true → g k = false → l.countP g < l.countP f
  | a :: l, h, hk, f1, g1 => by
    have le : ∀ l : List Nat, l.countP g ≤ l.countP f := fun l => List.countP_mono_left fun x _ => h x
    rw [List.countP_cons, List.countP_cons]
    by_cases e : k = a
    · subst e
      rw [if_pos f1, if_neg (by rw [g1]; exact Bool.false_ne_true)]
      have := le l
      omega
    · have ih := countP_less (l := l) h ((List.mem_cons.mp hk).resolve_left e) f1 g1
      by_cases ga : g a = true
      · rw [if_pos ga, if_pos (h a ga)]
        omega
      · rw [if_neg ga]
        split <;> omega
theorem stk_put (kvs : Kvs) (p q a b : Nat) (v : V) : stk (putK kvs (kPair p q) v) a b = (decide (a = p ∧ b = q) || stk kvs a b) := by
  unfold stk
  rw [valV_put]
  by_cases e : a = p ∧ b = q
  · rw [e.1, e.2, if_pos rfl]
    simp
  · rw [if_neg, decide_eq_false e, Bool.false_or]
    intro z
    unfold kPair at z
    injection z with z1 z2
    injection z2 with z2 _
    injection z1 with z1
    injection z2 with z2
    exact e ⟨by omega, by omega⟩
theorem cnt_put {A B : Bk} {kvs : Kvs} {p q : Nat} {v : V} (hp : p < A.sides.length) (hq : q < B.sides.length) (h : stk kvs p q = false) : cnt A B (putK kvs (kPair p q) v) < cnt A B kvs := by
  have n0 : 0 < B.sides.length := by omega
  have e1 : (p * B.sides.length + q) / B.sides.length = p := by
    rw [Nat.mul_comm, Nat.mul_add_div n0, Nat.div_eq_of_lt hq, Nat.add_zero]
  have e2 : (p * B.sides.length + q) % B.sides.length = q := by
    rw [Nat.mul_comm, Nat.mul_add_mod, Nat.mod_eq_of_lt hq]
  refine countP_less (k := p * B.sides.length + q) (fun x hx => ?_) ?_ ?_ ?_
  · rw [stk_put] at hx
    simp at hx ⊢
    exact hx.2
  · rw [List.mem_range]
    have : (p + 1) * B.sides.length ≤ A.sides.length * B.sides.length := Nat.mul_le_mul_right _ hp
    rw [Nat.add_mul, Nat.one_mul] at this
    omega
  · rw [e1, e2, h]
    rfl
  · rw [e1, e2, stk_put]
    simp
theorem putK_len (kvs : Kvs) (k : List Key) (v : V) : (putK kvs k v).length ≤ kvs.length + 1 := by
  unfold putK
  split
  · rw [List.length_map]
    omega
  · rw [List.length_append, List.length_singleton]
    exact Nat.le_refl _
/-! ## heaps in which instances, lists, tuples stay -/
structure Kp (K : PySem.W.Frag) (H H' : Hp) : Prop where
  i : ∀ a C d fs, H a = some (.ins C d fs) → H' a = some (.ins C d fs)
  l : ∀ a xs, H a = some (.lst xs) → H' a = some (.lst xs)
  t : TupK K H H'
section
variable {K : PySem.W.Frag} {H H' H'' : Hp}
theorem Kp.trans (a : Kp K H H') (b : Kp K H' H'') : Kp K H H'' := ⟨fun x C d fs h => b.i _ _ _ _ (a.i x C d fs h), fun x xs h => b.l _ _ (a.l x xs h), a.t.trans b.t⟩
theorem Kp.ex (e : Ex H H') : Kp K H H' := ⟨fun _ _ _ _ h => e _ _ h, fun _ _ h => e _ _ h, .ex e⟩
theorem Kp.butT {d : Addr} {kvs : Kvs} (e : But d H H') (hd : H d = some (.dT kvs)) : Kp K H H' :=
  ⟨fun a C x fs h => e a _ (ne_of h hd (by intro z; cases z)) h, fun a xs h => e a _ (ne_of h hd (by intro z; cases z)) h, (Sq.dT e hd).tup⟩
theorem Kp.butK {d : Addr} {kvs : List (Key × V)} (e : But d H H') (hd : H d = some (.dK kvs)) : Kp K H H' :=
  ⟨fun a C x fs h => e a _ (ne_of h hd (by intro z; cases z)) h, fun a xs h => e a _ (ne_of h hd (by intro z; cases z)) h, (Sq.dK e hd).tup⟩
theorem IsMv.kp (e : Kp K H H') {v : V} {m : Mv} (h : IsMv K H v m) : IsMv K H' v m := by
  obtain ⟨a, dx, c, e1, e2, e3⟩ := h
  exact ⟨a, dx, c, e1, e.i _ _ _ _ e2, e3.tk e.t⟩
theorem IsGw.kp (e : Kp K H H') {v : V} {m : Gw} (h : IsGw K H v m) : IsGw K H' v m := by
  obtain ⟨a, dx, c, e1, e2, e3⟩ := h
  exact ⟨a, dx, c, e1, e.i _ _ _ _ e2, e3.tk e.t⟩
theorem IsBk.kp (e : Kp K H H') {v : V} {B : Bk} (h : IsBk K H v B) : IsBk K H' v B := by
  obtain ⟨a, dx, sa, ma, ga, ms, gs, e1, e2, e3, e4, e5, e6, e7⟩ := h
  exact ⟨a, dx, sa, ma, ga, ms, gs, e1, e.i _ _ _ _ e2, e.t _ _ e3, e.t _ _ e4, e.t _ _ e5, e6.mono fun _ _ q => q.kp e, e7.mono fun _ _ q => q.kp e⟩
theorem OptV.kp {S : Addr → Prop} (e : Kp K H H') {v : V} {B : Bk} {p : Nat} {i : Int} (h : OptV K S H v B p i) : OptV K S H' v B p i := by
  unfold OptV at h ⊢
  by_cases g : B.goal p i = true
  · rw [if_pos g] at h ⊢
    exact h
  · rw [if_neg g] at h ⊢
    obtain ⟨l, ts, e1, e2, e3, e4⟩ := h
    exact ⟨l, ts, e1, e2, e.l _ _ e3, e4.tk e.t⟩
theorem Sheet.kp {S : Addr → Prop} (e : Kp K H H') {v : V} {A B : Bk} {n : Int} (h : Sheet K S H v A B n) : Sheet K S H' v A B n := by
  obtain ⟨T, lf, rt, ls, rs, h1, h2, h3, h4, h5, h6, h7, h8, h9, h10⟩ := h
  exact ⟨T, lf, rt, ls, rs, h1, e.t _ _ h2, h3, h4, e.l _ _ h5, e.l _ _ h6, h7, h8, fun p v q => (h9 p v q).kp e, fun p v q => (h10 p v q).kp e⟩
theorem Sheets.kp {S : Addr → Prop} (e : Kp K H H') {l : Addr} {A B : Bk} (h : Sheets K S H l A B) : Sheets K S H' l A B := by
  obtain ⟨shs, h1, h2, h3⟩ := h
  exact ⟨shs, e.l _ _ h1, h2, fun i v n a b => (h3 i v n a b).kp e⟩
end
def StkEnd (A B : Bk) (kvs : Kvs) : Prop := ∀ p q, p < A.sides.length → q < B.sides.length → (stk kvs p q = false ↔ Lk A B p q)
def sp_Strikes_work (w : World) (K : PySem.W.Frag) : Sp := fun vs H Q _ => ∃ (self dx d l : Addr) (a b : V) (A B : Bk), vs = [.ref self] ∧ H self = some (.ins (He.ga K "Strikes") dx (fStr a b d l)) ∧ IsBk K H a A ∧ IsBk K H b B ∧ H d = some (.dT []) ∧ Sheets K (fun _ => True) H l A B ∧ A.Ok ∧ B.Ok ∧
  ∀ H' kvs, But d H H' → H' d = some (.dT kvs) → StkEnd A B kvs → Q .non H'
def N_Strikes_work : List Str := ["self", "is_done", "place", "other", "why"]
theorem sc_Strikes_work : FnScope N_Strikes_work ["self"] (defScope s_Strikes_work) := ⟨rfl, rfl, rfl, by decide +kernel, rfl, by decide +kernel, by decide +kernel⟩
/-- names: 0 self 1 is_done 2 place 3 other 4 why -/
def t_Strikes_work (P : Program) (w : World) (K : PySem.W.Frag) : TS :=
    (tSeq (tAsg (tC (.bl false)) (gName 1))
    (tWhile (tNot (tB (tVar 1)))
    (tSeq (tAsg (tC (.bl true)) (gName 1))
    (tFor (iRng1 (tCons (tFld K (tFld K (tVar 0) ("one" : Str)) ("places" : Str)) tNil)) (gName 2)
    (tFor (iRng1 (tCons (tFld K (tFld K (tVar 0) ("other" : Str)) ("places" : Str)) tNil)) (gName 3)
    (tIfS (tNot (tB (tMth (He.ga K "Strikes") ("is_struck" : Str) (sp_Strikes_is_struck w K) (tVar 0) (tCons (tVar 2) (tCons (tVar 3) tNil)))))
    (tSeq (tAsg (tMth (He.ga K "Strikes") ("reason" : Str) (sp_Strikes_reason w K) (tVar 0) (tCons (tVar 2) (tCons (tVar 3) tNil))) (gName 4))
    (tIfS (tTest (tOp rNotNn (tVar 4) (tC .non)))
    (tSeq (sDPut (tFld K (tVar 0) ("struck" : Str)) (tTup (tCons (tVar 2) (tCons (tVar 3) tNil))) (tVar 4))
    (tAsg (tC (.bl false)) (gName 1)))
    tNext))
    tNext))))))
section
variable {P : Program} {w : World} {K : PySem.W.Frag} {mg : Str → Option Value} (E : Ctx w K mg)
include E
theorem rd_Strikes_work (vs : List V) (H : Hp) (Q : VK) (E0 : XK) (h : sp_Strikes_work w K vs H Q E0) : vs.length = 1 ∧ t_Strikes_work P w K { nx := fun _ H' => Q .non H', rt := Q } (start N_Strikes_work vs) H := by
  obtain ⟨self, dx, d, l, a, b, A, B, rfl, hs, hA, hB, hd, hsh, oA, oB, k⟩ := h
  have nA := oA.n1
  have nB := oB.n1
  have nAB : A.sides.length * B.sides.length ≤ 49 := Nat.mul_le_mul nA nB
  -- what holds of the struck pairs
  let Snd : Kvs → Prop := fun kvs => ∀ p q, stk kvs p q = true → ¬ Lk A B p q
  let St : Bool → Kvs → L2.St → Hp → Prop := fun bo kvs σ H' => (∃ x2 x3 x4, σ = [some (.ref self), some (.bl bo), x2, x3, x4]) ∧ But d H H' ∧ H' d = some (.dT kvs) ∧ Snd kvs ∧ kvs.length + cnt A B kvs ≤ 49
  refine ⟨rfl, ⟨fun m σ H' => ∃ bo kvs, St bo kvs σ H' ∧ (bo = true → ∀ p q, p < A.sides.length → q < B.sides.length → stk kvs p q = false → Okp kvs A B p q) ∧ m = 2 * cnt A B kvs + (if bo = true then 0 else 1), ?_, ?_⟩⟩
  · refine ⟨_, false, [], ⟨⟨none, none, none, rfl⟩, .refl _ _, hd, fun p q z => (by cases z), ?_⟩, fun z => (by cases z), rfl⟩
    have := List.countP_le_length (p := fun k => !stk ([] : Kvs) (k / B.sides.length) (k % B.sides.length)) (l := List.range (A.sides.length * B.sides.length))
    rw [List.length_range] at this
    show 0 + cnt A B [] ≤ 49
    unfold cnt
    omega
  · rintro m σ H1 ⟨bo, kvs0, ⟨⟨x2, x3, x4, rfl⟩, b1, hd1, snd1, len1⟩, fin, rfl⟩
    refine ⟨_, rfl, bo, rfl, ?_⟩
    cases bo with
    | true =>
      refine k H1 kvs0 b1 hd1 fun p q hp hq => ⟨fun z => ⟨_, ok_sim oA oB (fin rfl), hp, hq, z⟩, fun z => ?_⟩
      cases q2 : stk kvs0 p q with
      | false => rfl
      | true => exact absurd z (snd1 p q q2)
    | false =>
      refine ⟨_, fun σ' H' z => z, ?_⟩
      have kp1 : Kp K H H1 := .butT b1 hd
      obtain ⟨aa, adx, asa, ama, aga, ams, ags, rfl, ha1, _⟩ := id (hA.kp kp1)
      refine ⟨_, rfl, self, _, dx, _, _, rfl, kp1.i _ _ _ _ hs, E.cls_Strikes, E.na_Strikes_one, rfl, aa, _, adx, _, _, rfl, ha1, E.cls_Book, E.na_Book_places, rfl, _, rfl, by omega, by omega, ?_⟩
      rw [Int.toNat_natCast]
      refine for_it walk_range (fun i σ H' => ∃ bo kvs, St bo kvs σ H' ∧ ((bo = true ∧ kvs = kvs0 ∧ ∀ p q, p < i → q < B.sides.length → stk kvs p q = false → Okp kvs A B p q) ∨ (bo = false ∧ cnt A B kvs < cnt A B kvs0)))
        ⟨true, kvs0, ⟨⟨_, _, _, rfl⟩, b1, hd1, snd1, len1⟩, .inl ⟨rfl, rfl, fun p q hp => absurd hp (Nat.not_lt_zero _)⟩⟩ (fun _ _ _ _ _ => trivial) ?_ ?_
      · rintro i x σ H2 H2' hi ⟨bo, kvs1, ⟨⟨x2, x3, x4, rfl⟩, b2, hd2, snd2, len2⟩, alt⟩ ⟨rfl, hx⟩
        have hx2 : x = .int (i : Nat) := hx.trans (congrArg V.int (Int.zero_add _))
        subst hx2
        have kp2 : Kp K H H2' := .butT b2 hd
        obtain ⟨ba, bdx, bsa, bma, bga, bms, bgs, rfl, hb1, _⟩ := id (hB.kp kp2)
        refine ⟨_, rfl, self, _, dx, _, _, rfl, kp2.i _ _ _ _ hs, E.cls_Strikes, E.na_Strikes_other, rfl, ba, _, bdx, _, _, rfl, hb1, E.cls_Book, E.na_Book_places, rfl, _, rfl, by omega, by omega, ?_⟩
        rw [Int.toNat_natCast]
        refine for_it walk_range (fun j σ H' => (∃ bo kvs, (∃ x3 x4, σ = [some (.ref self), some (.bl bo), some (.int (i : Nat)), x3, x4]) ∧ But d H H' ∧ H' d = some (.dT kvs) ∧ Snd kvs ∧ kvs.length + cnt A B kvs ≤ 49 ∧ ((bo = true ∧ kvs = kvs0 ∧ ∀ p q, ((p < i ∧ q < B.sides.length) ∨ (p = i ∧ q < j)) → stk kvs p q = false → Okp kvs A B p q) ∨ (bo = false ∧ cnt A B kvs < cnt A B kvs0))))
          ?_ (fun _ _ _ _ _ => trivial) ?_ ?_
        · refine ⟨bo, kvs1, ⟨_, _, rfl⟩, b2, hd2, snd2, len2, alt.imp (fun z => ⟨z.1, z.2.1, fun p q h => z.2.2 p q ?_ ?_⟩) id⟩
          · rcases h with h | h
            · exact h.1
            · omega
          · rcases h with h | h
            · exact h.2
            · omega
        · rintro j y σ H3 H3' hj ⟨bo, kvs, ⟨x3, x4, rfl⟩, b3, hd3, snd3, len3, alt3⟩ ⟨rfl, hy⟩
          have hy2 : y = .int (j : Nat) := hy.trans (congrArg V.int (Int.zero_add _))
          subst hy2
          have kp3 : Kp K H H3' := .butT b3 hd
          have hs3 := kp3.i _ _ _ _ hs
          refine ⟨_, rfl, self, dx, _, rfl, hs3, rfl, _, rfl, _, rfl, self, dx, d, l, _, _, i, j, kvs, rfl, hs3, hd3, fun H4 e4 => ⟨_, rfl, ?_⟩⟩
          have step : ∀ {bo kvs}, ((bo = true ∧ kvs = kvs0 ∧ ∀ p q, ((p < i ∧ q < B.sides.length) ∨ (p = i ∧ q < j)) → stk kvs p q = false → Okp kvs A B p q) ∨ (bo = false ∧ cnt A B kvs < cnt A B kvs0)) → (stk kvs i j = false → Okp kvs A B i j) →
              ((bo = true ∧ kvs = kvs0 ∧ ∀ p q, ((p < i ∧ q < B.sides.length) ∨ (p = i ∧ q < j + 1)) → stk kvs p q = false → Okp kvs A B p q) ∨ (bo = false ∧ cnt A B kvs < cnt A B kvs0)) := fun h h2 => h.imp (fun z => ⟨z.1, z.2.1, fun p q hv => by
            by_cases e : p = i ∧ q = j
            · rw [e.1, e.2]
              exact h2
            · refine z.2.2 p q ?_
              rcases hv with hv | hv
              · exact .inl hv
              · exact .inr ⟨hv.1, by omega⟩⟩) id
          cases sij : stk kvs i j with
          | true =>
            exact ⟨bo, kvs, ⟨_, _, rfl⟩, b3.trans (.of e4), e4 _ _ hd3, snd3, len3, step alt3 fun z => by rw [sij] at z; cases z⟩
          | false =>
            have kp4 := kp3.trans (.ex e4)
            have hs4 := kp4.i _ _ _ _ hs
            refine ⟨_, rfl, self, dx, _, rfl, hs4, rfl, _, rfl, _, rfl, self, i, j, A, B, kvs, rfl, ⟨dx, _, _, d, l, hs4, hA.kp kp4, hB.kp kp4, e4 _ _ hd3, hsh.kp kp4⟩, oA, oB, hi, hj, fun H5 v5 e5 r5 => ?_⟩
            rcases r5 with ⟨rfl, ok5⟩ | ⟨ra, rfl, nok⟩
            · refine ⟨_, rfl, rfl, _, rfl, ?_⟩
              exact ⟨bo, kvs, ⟨_, _, rfl⟩, (b3.trans (.of e4)).trans (.of e5), e5 _ _ (e4 _ _ hd3), snd3, len3, step alt3 fun _ => ok5⟩
            · refine ⟨_, rfl, rfl, _, rfl, ?_⟩
              have kp5 := kp4.trans (.ex e5)
              have hd5 := e5 _ _ (e4 _ _ hd3)
              refine ⟨_, rfl, _, rfl, self, _, dx, _, _, rfl, kp5.i _ _ _ _ hs, E.cls_Strikes, E.na_Strikes_struck, rfl, _, rfl, _, rfl, (by show 2 ≤ sizeLine; decide), fun T hT => ?_⟩
              have e6 : Ex H5 (upd H5 T (.tup [.int (i : Nat), .int (j : Nat)])) := Ex.new hT
              refine ⟨d, _, rfl, DPut.t (k := kPair i j) (e6 _ _ hd5) upd_same (Evl.sz_lt (by omega)), ?_⟩
              have cp := cnt_put (kvs := kvs) (v := .ref ra) hi hj sij
              have pl := putK_len kvs (kPair i j) (.ref ra)
              refine ⟨false, putK kvs (kPair i j) (.ref ra), ⟨_, _, rfl⟩, (((b3.trans (.of e4)).trans (.of e5)).trans (.of e6)).up _, upd_same, fun p q z lk => ?_, by omega, .inr ⟨rfl, ?_⟩⟩
              · rw [stk_put] at z
                by_cases e : p = i ∧ q = j
                · rw [e.1, e.2] at lk
                  obtain ⟨R, sim, r⟩ := lk
                  refine nok (sim_ok sim (fun p q h => ?_) r)
                  cases c : stk kvs p q with
                  | false => rfl
                  | true => exact absurd ⟨R, sim, h⟩ (snd3 p q c)
                · rw [decide_eq_false e, Bool.false_or] at z
                  exact snd3 p q z lk
              · rcases alt3 with ⟨_, rfl, _⟩ | ⟨_, z⟩ <;> omega
        · rintro σ H3 ⟨bo, kvs, ⟨x3, x4, rfl⟩, b3, hd3, snd3, len3, alt3⟩
          refine ⟨bo, kvs, ⟨⟨_, _, _, rfl⟩, b3, hd3, snd3, len3⟩, alt3.imp (fun z => ⟨z.1, z.2.1, fun p q hp hq => z.2.2 p q ?_⟩) id⟩
          by_cases e : p = i
          · exact .inr ⟨e, hq⟩
          · exact .inl ⟨by omega, hq⟩
      · rintro σ H2 ⟨bo, kvs, st, alt⟩
        refine ⟨2 * cnt A B kvs + (if bo = true then 0 else 1), ?_, bo, kvs, st, ?_, rfl⟩
        · rcases alt with ⟨rfl, rfl, _⟩ | ⟨rfl, z⟩
          · simp
          · simp
            omega
        · rintro rfl
          rcases alt with ⟨_, _, z⟩ | ⟨z, _⟩
          · exact z
          · cases z
end
theorem ok_Strikes_work {P : Program} {w : World} {K : PySem.W.Frag} {mg : Str → Option Value} {base : Heap} (E : Ctx w K mg) : MthOk P w K mg base (He.ga K "Strikes") "work" [("self" : Str)] 3 (sp_Strikes_work w K) := by
  obtain ⟨fd, F⟩ := E.D_Strikes_work
  exact ⟨_, fd, fn_mk (t := t_Strikes_work P w K) F sc_Strikes_work (rd_Strikes_work E) (fun cdv A outer s H E0 hr => (pss_cons (ps_set (i := 1) sc_Strikes_work.nd rfl (Or.inl rfl) pe_bl)
    (pss_one (ps_while PassesOwn.never (pt_not (pt_val (pv 1)))
    (pss_cons (ps_set (i := 1) sc_Strikes_work.nd rfl (Or.inl rfl) pe_bl)
    (pss_one (ps_for PassesOwn.never rfl (pi_range1 (by rfl) E.f_range (pa_cons (pe_fld (pe_fld (pv 0) rfl) rfl) pa_nil)) (pg_name (i := 2) sc_Strikes_work.nd rfl (Or.inl rfl))
    (pss_one (ps_for PassesOwn.never rfl (pi_range1 (by rfl) E.f_range (pa_cons (pe_fld (pe_fld (pv 0) rfl) rfl) pa_nil)) (pg_name (i := 3) sc_Strikes_work.nd rfl (Or.inl rfl))
    (pss_one (ps_if (pt_not (pt_val (pe_mth (ok_Strikes_is_struck E) E.cls_Strikes (hr.mono (by decide)) (pv 0) (pa_cons (pv 2) (pa_cons (pv 3) pa_nil)))))
    (pss_cons (ps_set (i := 4) sc_Strikes_work.nd rfl (Or.inl rfl) (pe_mth (ok_Strikes_reason E) E.cls_Strikes (hr.mono (by decide)) (pv 0) (pa_cons (pv 2) (pa_cons (pv 3) pa_nil))))
    (pss_one (ps_if (pt_cmpR op_notN (pv 4) pe_non (nomark _))
    (pss_cons (ps_dput (hu_of hr) (pe_fld (pv 0) rfl) (pe_tup (pa_cons (pv 2) (pa_cons (pv 3) pa_nil))) (pv 4) rfl)
    (pss_one (ps_set (i := 1) sc_Strikes_work.nd rfl (Or.inl rfl) pe_bl)))
    pss_nil)))
    pss_nil))))))))))), (FunD.bindsN F (fun _ _ _ _ _ _ us hl => match us, hl with | [_], _ => rfl)), E.m_Strikes_work⟩
end K28

set_option Elab.async false
set_option linter.all false
set_option maxRecDepth 100000
set_option maxHeartbeats 4000000
namespace K28
open PySem PySem.Spec PyProof.Rows L2
open Evl (Ex)

section
variable {K : PySem.W.Frag} {H H' : Hp}
theorem IsBk.but {p C d : Addr} (e : But p H H') (hp : H p = some (.ins C d [])) {v : V} {B : Bk} (h : IsBk K H v B) : IsBk K H' v B := by
  obtain ⟨a, dx, sa, ma, ga, ms, gs, e1, e2, e3, e4, e5, e6, e7⟩ := h
  have t := (Sq.ins (K := K) e hp).tup
  refine ⟨a, dx, sa, ma, ga, ms, gs, e1, e a _ (fun z => ?_) e2, t _ _ e3, t _ _ e4, t _ _ e5, e6.mono fun _ _ q => q.but e hp, e7.mono fun _ _ q => q.but e hp⟩
  subst z
  rw [hp] at e2
  cases e2
theorem Sheet.mono {S S' : Addr → Prop} (n : ∀ a, S a → S' a) {v : V} {A B : Bk} {i : Int} (h : Sheet K S H v A B i) : Sheet K S' H v A B i := by
  obtain ⟨T, lf, rt, ls, rs, h1, h2, h3, h4, h5, h6, h7, h8, h9, h10⟩ := h
  exact ⟨T, lf, rt, ls, rs, h1, h2, n _ h3, n _ h4, h5, h6, h7, h8, fun p v q => (h9 p v q).mono n, fun p v q => (h10 p v q).mono n⟩
theorem IsBk.kpl {l : Addr} {xs : List V} (e : Frm (· = l) H H') (hl : H l = some (.lst xs)) {v : V} {B : Bk} (h : IsBk K H v B) : IsBk K H' v B := by
  have t : TupK K H H' := TupK.frm e fun a z o q => by rw [z, hl] at q; cases q; exact noTup_lst
  have i : ∀ a C d fs, H a = some (.ins C d fs) → H' a = some (.ins C d fs) := fun a C d fs q => e a _ (ne_of q hl (by intro z; cases z)) q
  obtain ⟨a, dx, sa, ma, ga, ms, gs, e1, e2, e3, e4, e5, e6, e7⟩ := h
  refine ⟨a, dx, sa, ma, ga, ms, gs, e1, i _ _ _ _ e2, t _ _ e3, t _ _ e4, t _ _ e5, e6.mono fun _ _ ⟨a, dx, c, q1, q2, q3⟩ => ⟨a, dx, c, q1, i _ _ _ _ q2, q3.tk t⟩, e7.mono fun _ _ ⟨a, dx, c, q1, q2, q3⟩ => ⟨a, dx, c, q1, i _ _ _ _ q2, q3.tk t⟩⟩
end
def sp_Strikes___init__ (w : World) (K : PySem.W.Frag) : Sp := fun vs H Q _ => ∃ (self dx : Addr) (a b : V) (A B : Bk), vs = [.ref self, a, b] ∧ H self = some (.ins (He.ga K "Strikes") dx []) ∧ IsBk K H a A ∧ IsBk K H b B ∧ A.Ok ∧ B.Ok ∧
  ∀ H' d l kvs, But self H H' → H' self = some (.ins (He.ga K "Strikes") dx (fStr a b d l)) → H' d = some (.dT kvs) → StkEnd A B kvs → Q .non H'
def N_Strikes___init__ : List Str := ["self", "one", "other", "count", "left", "place", "right"]
theorem sc_Strikes___init__ : FnScope N_Strikes___init__ ["self", "one", "other"] (defScope s_Strikes___init__) := ⟨rfl, rfl, rfl, by decide +kernel, rfl, by decide +kernel, by decide +kernel⟩
/-- names: 0 self 1 one* 2 other* 3 count* 4 left 5 place 6 right -/
def t_Strikes___init__ (P : Program) (w : World) (K : PySem.W.Frag) : TS :=
    (tSeq (sFld K (tVar 0) (tVar 1) ("one" : Str))
    (tSeq (sFld K (tVar 0) (tVar 2) ("other" : Str))
    (tSeq (sFld K (tVar 0) tDNewT ("struck" : Str))
    (tSeq (sFld K (tVar 0) (tLst tNil) ("sheets" : Str))
    (tSeq (tFor (iList K (tFn (sp_window_of w K) (tCons (tVar 1) (tCons (tVar 2) tNil)))) (gName 3)
    (tSeq (tAsg (tLc (iRng1 (tCons (tFld K (tVar 1) ("places" : Str)) tNil)) (gName 5) tYes (tFn (sp_options w K) (tCons (tVar 1) (tCons (tVar 5) (tCons (tVar 3) tNil)))) [5]) (gName 4))
    (tSeq (tAsg (tLc (iRng1 (tCons (tFld K (tVar 2) ("places" : Str)) tNil)) (gName 5) tYes (tFn (sp_options w K) (tCons (tVar 2) (tCons (tVar 5) (tCons (tVar 3) tNil)))) [5]) (gName 6))
    (tDrop (tBM K "list" rAppend (tFld K (tVar 0) ("sheets" : Str)) (tCons (tTup (tCons (tVar 3) (tCons (tVar 4) (tCons (tVar 6) tNil)))) tNil))))))
    (tDrop (tMth (He.ga K "Strikes") ("work" : Str) (sp_Strikes_work w K) (tVar 0) tNil)))))))
section
variable {P : Program} {w : World} {K : PySem.W.Frag} {mg : Str → Option Value} (E : Ctx w K mg)
include E
theorem rd_Strikes___init__ (vs : List V) (H : Hp) (Q : VK) (E0 : XK) (h : sp_Strikes___init__ w K vs H Q E0) : vs.length = 3 ∧ t_Strikes___init__ P w K { nx := fun _ H' => Q .non H', rt := Q } (start N_Strikes___init__ vs) H := by
  obtain ⟨self, dx, a, b, A, B, rfl, hs, hA, hB, oA, oB, k⟩ := h
  refine ⟨rfl, _, rfl, _, rfl, self, _, dx, _, rfl, hs, E.cls_Strikes, E.na_Strikes_one, (by show 0 < 1000; decide), _, rfl, _, rfl, self, _, dx, _, rfl, upd_same, E.cls_Strikes, E.na_Strikes_other, (by show 1 < 1000; decide), fun d hd0 => ?_⟩
  refine ⟨_, rfl, self, _, dx, _, rfl, (Ex.new hd0) _ _ upd_same, E.cls_Strikes, E.na_Strikes_struck, (by show 2 < 1000; decide), ?_⟩
  have nds : d ≠ self := fun z => by rw [z, upd_same] at hd0; cases hd0
  refine ⟨(by show 0 ≤ sizeLine; decide), fun l hl0 => ⟨_, rfl, self, _, dx, _, rfl, (Ex.new hl0) _ _ upd_same, E.cls_Strikes, E.na_Strikes_sheets, (by show 3 < 1000; decide), ?_⟩⟩
  have nls : l ≠ self := fun z => by rw [z, upd_same] at hl0; cases hl0
  have nld : l ≠ d := fun z => by rw [z, upd_ne nds, upd_same] at hl0; cases hl0
  generalize hH4 : upd (upd _ l (.lst [])) self _ = H4
  have hd4 : H4 d = some (.dT []) := by rw [← hH4, upd_ne nds, upd_ne nld.symm, upd_ne nds, upd_same]
  have hl4 : H4 l = some (.lst []) := by rw [← hH4, upd_ne nls, upd_same]
  have hs4 : H4 self = some (.ins (He.ga K "Strikes") dx (fStr a b d l)) := by rw [← hH4]; exact upd_same
  have hdn : H d = none := by
    have z := hd0
    rw [upd_ne nds, upd_ne nds] at z
    exact z
  have hln : H l = none := by
    have z := hl0
    rw [upd_ne nls, upd_ne nld, upd_ne nls, upd_ne nls] at z
    exact z
  have b4 : But self H H4 := by
    intro x o hx q
    have n1 : x ≠ l := fun z => by rw [z, hln] at q; cases q
    have n2 : x ≠ d := fun z => by rw [z, hdn] at q; cases q
    rw [← hH4, upd_ne hx, upd_ne n1, upd_ne hx, upd_ne n2, upd_ne hx, upd_ne hx]
    exact q
  have kA : IsBk K H4 a A := hA.but b4 hs
  have kB : IsBk K H4 b B := hB.but b4 hs
  refine ⟨_, rfl, _, rfl, a, b, A, B, rfl, kA, oA, kB, oB, fun H5 wl e5 hwl => ?_⟩
  have hl5 := e5 _ _ hl4
  have hd5 := e5 _ _ hd4
  have hs5 := e5 _ _ hs4
  rw [wins_eq] at hwl
  have nwl : wl ≠ l ∨ (winI A B).map V.int = [] := by
    by_cases z : wl = l
    · rw [z, hl5] at hwl
      exact .inr (by injection hwl with q; injection q with q; exact q.symm)
    · exact .inl z
  refine ⟨wl, rfl, ⟨_, Evl.sq_of hwl⟩, ?_⟩
  have wlen : ((winI A B).map V.int).length = (winI A B).length := List.length_map _
  refine for_it (walk_list (xs := (winI A B).map V.int)) (fun i σ H' => (∃ x3 x4 x5 x6, σ = [some (.ref self), some a, some b, x3, x4, x5, x6]) ∧ Frm (· = l) H5 H' ∧ ∃ shs, H' l = some (.lst shs) ∧ shs.length = i ∧ ∀ (j : Nat) (v : V) (n : Int), shs[j]? = some v → (winI A B)[j]? = some n → Sheet K (fun x => H5 x = none) H' v A B n)
    ⟨⟨none, none, none, none, rfl⟩, .refl _ _, [], hl5, rfl, fun j v n q => by simp at q⟩ ?_ ?_ ?_
  · rintro i σ H' _ ⟨_, f, shs, h1, h2, _⟩
    rcases nwl with z | z
    · exact Evl.sq_of (f _ _ z hwl)
    · by_cases zz : wl = l
      · rw [z]
        have : shs = [] := by
          refine List.eq_nil_of_length_eq_zero ?_
          have : ((winI A B).map V.int).length = 0 := by rw [z]; rfl
          omega
        rw [this, ← zz] at h1
        exact Evl.sq_of h1
      · exact Evl.sq_of (f _ _ zz hwl)
  · rintro i x σ H1 H1' hi ⟨⟨x3, x4, x5, x6, rfl⟩, f, shs, h1, h2, h3⟩ ⟨rfl, hx⟩
    rw [wlen] at hi
    have hn : (winI A B)[i]? = some (winI A B)[i] := List.getElem?_eq_getElem hi
    rw [List.getElem?_map, hn] at hx
    cases hx
    generalize (winI A B)[i] = n at hn
    -- places are free of l
    have fr : ∀ {H'' : Hp}, Frm (· = l) H5 H'' → (∃ ws, H'' l = some (.lst ws)) → ∀ x, H'' x = none → H5 x = none := fun e ⟨ws, q⟩ x hx => e.free (fun z => by rw [z, q] at hx; cases hx) hx
    -- one side
    have side : ∀ {H1 : Hp} {o : V} {O : Bk} {D : Addr} (_ : Frm (· = l) H5 H1) (_ : ∃ ws, H1 l = some (.lst ws)) (_ : H1 D = none), ∀ (i : Nat) (v : V) (H' : Hp) (zs : List V), LstAt H' D → Frm noS H1 H' → OptV K (fun x => H5 x = none ∧ x ≠ D) H' v O i n → OptV K (fun x => H5 x = none ∧ x ≠ D) (upd H' D (.lst zs)) v O i n :=
      fun {H1 o O D} _ _ _ i v H' zs hl e ov => ov.frm (S := (· = D)) (fun a u hn q => by rw [upd_ne hn]; exact q) (.lst hl) fun a ha => ha.2
    obtain ⟨aa, adx, asa, ama, aga, ams, ags, rfl, ha1, _⟩ := id (kA.ex e5)
    obtain ⟨ba, bdx, bsa, bma, bga, bms, bgs, rfl, hb1, _⟩ := id (kB.ex e5)
    have iA := oA.n1
    have iB := oB.n1
    have kA1 : IsBk K H1' (.ref aa) A := (kA.ex e5).kpl f hl5
    have kB1 : IsBk K H1' (.ref ba) B := (kB.ex e5).kpl f hl5
    refine ⟨_, rfl, aa, _, adx, _, _, rfl, f _ _ (ne_of ha1 hl5 (by intro z; cases z)) ha1, E.cls_Book, E.na_Book_places, rfl, _, rfl, by omega, by omega, ?_⟩
    rw [Int.toNat_natCast]
    intro D hD
    refine lc_map noS (fun _ z => z.elim) hD (walk_range (lo := 0) (n := A.sides.length)) (by omega) (fun i v H' => OptV K (fun x => H5 x = none ∧ x ≠ D) H' v A i n) (fun _ _ => True) (fun _ _ _ _ => trivial) trivial (side (o := .ref aa) f ⟨_, h1⟩ hD) (fun _ _ _ _ _ _ => trivial) (fun i v H' H'' j hl e e2 _ _ ov => ov.kp (.ex e2.ex)) ?_ ?_
    · rintro p y H2 H2' kk hp hl e2 - ⟨rfl, hy⟩ kk2
      have hy2 : y = .int (p : Nat) := hy.trans (congrArg V.int (Int.zero_add _))
      subst hy2
      refine ⟨rfl, _, rfl, _, rfl, _, rfl, .ref aa, A, p, n, rfl, kA1.ex e2.ex, oA, hp, fun H3 v3 e3 o3 => kk2 v3 H3 (.of e3) (o3.mono fun x hx => ⟨fr f ⟨_, h1⟩ x (Evl.fresh_back e2.ex hx), fun z => ?_⟩) trivial⟩
      obtain ⟨ws, hw⟩ := hl
      rw [z, hw] at hx
      cases hx
    · intro ls H2 e2 hD2 len2 z2 _
      have e12 := e2.ex
      have f2 : Frm (· = l) H5 H2 := f.trans (.of e12)
      have hl2 := e12 _ _ h1
      refine ⟨_, rfl, ba, _, bdx, _, _, rfl, f2 _ _ (ne_of hb1 hl5 (by intro z; cases z)) hb1, E.cls_Book, E.na_Book_places, rfl, _, rfl, by omega, by omega, ?_⟩
      rw [Int.toNat_natCast]
      intro D3 hD3
      refine lc_map noS (fun _ z => z.elim) hD3 (walk_range (lo := 0) (n := B.sides.length)) (by omega) (fun i v H' => OptV K (fun x => H5 x = none ∧ x ≠ D3) H' v B i n) (fun _ _ => True) (fun _ _ _ _ => trivial) trivial (side (o := .ref aa) f2 ⟨_, hl2⟩ hD3) (fun _ _ _ _ _ _ => trivial) (fun i v H' H'' j hl e e2 _ _ ov => ov.kp (.ex e2.ex)) ?_ ?_
      · rintro p y H3 H3' kk hp hl e3 - ⟨rfl, hy⟩ kk2
        have hy2 : y = .int (p : Nat) := hy.trans (congrArg V.int (Int.zero_add _))
        subst hy2
        refine ⟨rfl, _, rfl, _, rfl, _, rfl, .ref ba, B, p, n, rfl, (kB1.ex e12).ex e3.ex, oB, hp, fun H4 v4 e4 o4 => kk2 v4 H4 (.of e4) (o4.mono fun x hx => ⟨fr f2 ⟨_, hl2⟩ x (Evl.fresh_back e3.ex hx), fun z => ?_⟩) trivial⟩
        obtain ⟨ws, hw⟩ := hl
        rw [z, hw] at hx
        cases hx
      · intro rs H3 e3 hD4 len3 z3 _
        have e23 := e3.ex
        have hl3 := e23 _ _ hl2
        have f3 : Frm (· = l) H5 H3 := f2.trans (.of e23)
        have hs3 : H3 self = some (.ins (He.ga K "Strikes") dx (fStr (.ref aa) (.ref ba) d l)) := f3 _ _ (Ne.symm nls) hs5
        refine ⟨_, rfl, self, _, dx, _, _, rfl, hs3, E.cls_Strikes, E.na_Strikes_sheets, rfl, .inl ⟨rfl, _, Evl.sq_of hl3⟩, _, rfl, _, rfl, _, rfl, (by show 3 ≤ sizeLine; decide), fun T hT => ?_⟩
        have eT : Ex H3 (upd H3 T (.tup [.int n, .ref D, .ref D3])) := Ex.new hT
        have hlT := eT _ _ hl3
        have wl2 : (winI A B).length ≤ 100000 := by
          obtain ⟨u1, u2⟩ := bound_bd oA
          obtain ⟨v1, v2⟩ := bound_bd oB
          obtain ⟨y1, y2⟩ := pos_of_six (Nat.lcm_dvd (rests_six oA) (rests_six oB))
          have y3 : 1 ≤ wR A B := y1
          have y4 : wR A B ≤ 6 := y2
          have w1 : 0 ≤ wB A B ∧ wB A B ≤ 9 := by
            unfold wB
            split <;> omega
          unfold winI
          rw [List.length_map, List.length_range]
          omega
        refine ⟨l, shs, _, rfl, rfl, hlT, Evl.sz_lt (by omega), ⟨_, _, _, _, rfl⟩, ?_, shs ++ [.ref T], upd_same, by rw [List.length_append, h2]; rfl, ?_⟩
        · intro x o hx q
          rw [upd_ne hx]
          exact eT _ _ (f3 x o hx q)
        · have tkL : TupK K (upd H3 T (.tup [.int n, .ref D, .ref D3])) (upd (upd H3 T (.tup [.int n, .ref D, .ref D3])) l (.lst (shs ++ [.ref T]))) := .up hlT noTup_lst
          have fL : Frm (· = l) (upd H3 T (.tup [.int n, .ref D, .ref D3])) (upd (upd H3 T (.tup [.int n, .ref D, .ref D3])) l (.lst (shs ++ [.ref T]))) := fun x o hx q => by
            rw [upd_ne hx]
            exact q
          have nl : ∀ x, H5 x = none → ¬ x = l := fun x hx z => by rw [z, hl5] at hx; cases hx
          intro j v m hv hm
          by_cases hj : j < shs.length
          · rw [List.getElem?_append_left hj] at hv
            exact ((h3 j v m hv hm).kp (.ex ((e12.trans e23).trans eT))).frm fL tkL nl
          · have hj2 : j = shs.length := by
              have := (List.getElem?_eq_some_iff.mp hv).1
              rw [List.length_append, List.length_singleton] at this
              omega
            subst hj2
            rw [List.getElem?_concat_length] at hv
            cases hv
            rw [h2, hn] at hm
            cases hm
            have nD : H5 D = none := fr f ⟨_, h1⟩ D hD
            have nD3 : H5 D3 = none := fr f2 ⟨_, hl2⟩ D3 hD3
            refine ⟨T, D, D3, ls, rs, rfl, tkL _ _ (Evl.st_of upd_same), nD, nD3, fL _ _ (nl D nD) (eT _ _ (e23 _ _ hD2)), fL _ _ (nl D3 nD3) (eT _ _ hD4), len2, len3, fun p v q => ?_, fun p v q => ?_⟩
            · exact (((z2 p v q).kp (.ex (e23.trans eT))).mono fun x hx => hx.1).frm fL tkL nl
            · exact (((z3 p v q).kp (.ex eT)).mono fun x hx => hx.1).frm fL tkL nl
  · rintro σ H' ⟨⟨x3, x4, x5, x6, rfl⟩, f, shs, h1, h2, h3⟩
    have hs6 : H' self = some (.ins (He.ga K "Strikes") dx (fStr a b d l)) := f _ _ (Ne.symm nls) hs5
    have hd6 : H' d = some (.dT []) := f _ _ (Ne.symm nld) hd5
    rw [wlen] at h2
    refine ⟨_, rfl, self, dx, _, rfl, hs6, rfl, self, dx, d, l, a, b, A, B, rfl, hs6, (kA.ex e5).kpl f hl5, (kB.ex e5).kpl f hl5, hd6, ⟨shs, h1, h2, fun i v n q1 q2 => (h3 i v n q1 q2).mono fun _ _ => trivial⟩, oA, oB, fun H7 kvs b7 hd7 en => ?_⟩
    refine k H7 d l kvs (fun x o hx q => ?_) (b7 _ _ nds.symm hs6) hd7 en
    have n1 : x ≠ l := fun z => by rw [z, hln] at q; cases q
    have n2 : x ≠ d := fun z => by rw [z, hdn] at q; cases q
    exact b7 _ _ n2 (f _ _ n1 (e5 _ _ (b4 _ _ hx q)))
end
theorem mk_Strikes {P : Program} {w : World} {K : PySem.W.Frag} {mg : Str → Option Value} {base : Heap} (E : Ctx w K mg) : MkOk P w K mg base "Strikes" (He.ga K "Strikes") [("self" : Str), ("one" : Str), ("other" : Str)] 6 (sp_Strikes___init__ w K) := by
  obtain ⟨fd, F⟩ := E.D_Strikes___init__
  exact ⟨_, fd, fn_mk (t := t_Strikes___init__ P w K) F sc_Strikes___init__ (rd_Strikes___init__ E) (fun cdv A outer s H E0 hr => (pss_cons (ps_fld (pv 0) (pv 1) rfl)
    (pss_cons (ps_fld (pv 0) (pv 2) rfl)
    (pss_cons (ps_fld (pv 0) pe_dnewT rfl)
    (pss_cons (ps_fld (pv 0) (pe_lst pa_nil) rfl)
    (pss_cons (ps_for PassesOwn.never rfl (pi_list (pe_fn (ok_window_of E) (hr.mono (by decide)) (by rfl) (pa_cons (pv 1) (pa_cons (pv 2) pa_nil)))) (pg_name (i := 3) sc_Strikes___init__.nd rfl (Or.inr rfl))
    (pss_cons (ps_setLc (i := 4) (own := [("place", 5)]) (wi := (iRng1 (tCons (tFld K (tVar 1) ("places" : Str)) tNil))) (g := (gName 5)) (tt := tYes) (te := (tFn (sp_options w K) (tCons (tVar 1) (tCons (tVar 5) (tCons (tVar 3) tNil))))) rfl sc_Strikes___init__.nd rfl rfl (sw_true rfl rfl rfl (by decide +kernel)) (pi_range1 (by rfl) E.f_range (pa_cons (pe_fld (pv 1) rfl) pa_nil)) (blkOk_by (own := [("place", 5)]) (N := N_Strikes___init__) (sc := defScope s_Strikes___init__) (by decide +kernel)) (fun _ _ _ _ _ => (pg_name (i := 5) sc_Strikes___init__.nd rfl (Or.inl rfl))) (fun _ _ _ _ _ => pts_nil) (fun _ _ _ _ _ => (pe_fn (ok_options E) (hr.mono (by decide)) (by rfl) (pa_cons (pv 1) (pa_cons (pv 5) (pa_cons (pv 3) pa_nil))))))
    (pss_cons (ps_setLc (i := 6) (own := [("place", 5)]) (wi := (iRng1 (tCons (tFld K (tVar 2) ("places" : Str)) tNil))) (g := (gName 5)) (tt := tYes) (te := (tFn (sp_options w K) (tCons (tVar 2) (tCons (tVar 5) (tCons (tVar 3) tNil))))) rfl sc_Strikes___init__.nd rfl rfl (sw_true rfl rfl rfl (by decide +kernel)) (pi_range1 (by rfl) E.f_range (pa_cons (pe_fld (pv 2) rfl) pa_nil)) (blkOk_by (own := [("place", 5)]) (N := N_Strikes___init__) (sc := defScope s_Strikes___init__) (by decide +kernel)) (fun _ _ _ _ _ => (pg_name (i := 5) sc_Strikes___init__.nd rfl (Or.inl rfl))) (fun _ _ _ _ _ => pts_nil) (fun _ _ _ _ _ => (pe_fn (ok_options E) (hr.mono (by decide)) (by rfl) (pa_cons (pv 2) (pa_cons (pv 5) (pa_cons (pv 3) pa_nil))))))
    (pss_one (ps_expr (pe_bm PySem.F.plainAttrs_list PySem.F.slot_list_append PySem.F.type_list_append mt_append (pe_fld (pv 0) rfl) (pa_cons (pe_tup (pa_cons (pv 3) (pa_cons (pv 4) (pa_cons (pv 6) pa_nil)))) pa_nil)))))))
    (pss_one (ps_expr (pe_mth0 (ok_Strikes_work E) E.cls_Strikes (hr.mono (by decide)) (pv 0)))))))))), (FunD.bindsN F (fun _ _ _ _ _ _ us hl => match us, hl with | [_, _, _], _ => rfl)), E.mk_Strikes, E.g_Strikes⟩
end K28

set_option Elab.async false
set_option linter.all false
set_option maxRecDepth 100000
set_option maxHeartbeats 4000000
namespace K28
open PySem PySem.Spec PyProof.Rows L2
open Evl (Ex)

/-! ## likeness, classes -/
def prD (z : Nat × Nat) : PyData := .tuple [.int z.1, .int z.2]
def pairs (n m : Nat) : List (Nat × Nat) := (List.range n).flatMap fun p => (List.range m).map fun q => (p, q)
theorem mem_pairs {n m : Nat} {z : Nat × Nat} : z ∈ pairs n m ↔ z.1 < n ∧ z.2 < m := by
  unfold pairs
  rw [List.mem_flatMap]
  constructor
  · rintro ⟨p, hp, h⟩
    obtain ⟨q, hq, rfl⟩ := List.mem_map.mp h
    exact ⟨List.mem_range.mp hp, List.mem_range.mp hq⟩
  · rintro ⟨h1, h2⟩
    exact ⟨z.1, List.mem_range.mpr h1, List.mem_map.mpr ⟨z.2, List.mem_range.mpr h2, rfl⟩⟩
theorem pairs_succ (n m : Nat) : pairs (n + 1) m = pairs n m ++ (List.range m).map fun q => (n, q) := by
  unfold pairs
  rw [List.range_succ, List.flatMap_append]
  simp
theorem pairs_len (n m : Nat) : (pairs n m).length = n * m := by
  induction n with
  | zero => simp [pairs]
  | succ n ih => rw [pairs_succ, List.length_append, ih, List.length_map, List.length_range, Nat.add_mul, Nat.one_mul]
def lks (f : Nat → Nat → Bool) (n m : Nat) : List (Nat × Nat) := (pairs n m).filter fun z => f z.1 z.2
def LkB (A B : Bk) (f : Nat → Nat → Bool) : Prop := ∀ p q, p < A.sides.length → q < B.sides.length → (f p q = true ↔ Lk A B p q)
/-- the items of xs whose fellow in ys passes -/
def parF {α : Type} (xs : List V) (ys : List α) (c : α → Bool) (i : Nat) : Option V := match xs[i]?, ys[i]? with
  | some v, some y => if c y = true then some v else none
  | _, _ => none
theorem par_filt {K : PySem.W.Frag} {H : Hp} {α : Type} (g : α → PyData) (c : α → Bool) : ∀ (xs : List V) (ys : List α), DtAll K H xs (ys.map g) → DtAll K H ((List.range xs.length).filterMap (parF xs ys c)) ((ys.filter c).map g)
  | [], [], _ => .nil
  | [], _ :: _, h => by
    have := h.1
    simp at this
  | _ :: _, [], h => by
    have := h.1
    simp at this
  | v :: xs, y :: ys, h => by
    have h0 : Dt K H v (g y) := h.2 0 v (g y) rfl rfl
    have h1 : DtAll K H xs (ys.map g) := ⟨by have := h.1; simpa using this, fun i u d a b => h.2 (i + 1) u d a b⟩
    have ih := par_filt g c xs ys h1
    rw [List.length_cons, List.range_succ_eq_map, List.filterMap_cons, List.filterMap_map]
    have e : parF (v :: xs) (y :: ys) c ∘ Nat.succ = parF xs ys c := by
      funext i
      rfl
    rw [e]
    by_cases q : c y = true
    · have e0 : parF (v :: xs) (y :: ys) c 0 = some v := by
        show (if c y = true then some v else none) = some v
        rw [if_pos q]
      rw [e0, List.filter_cons_of_pos q, List.map_cons]
      exact .cons h0 ih
    · have e0 : parF (v :: xs) (y :: ys) c 0 = none := by
        show (if c y = true then some v else none) = none
        rw [if_neg q]
      rw [e0, List.filter_cons_of_neg q]
      exact ih
def sp_likeness (w : World) (K : PySem.W.Frag) : Sp := fun vs H Q _ => ∃ (a b : V) (A B : Bk), vs = [a, b] ∧ IsBk K H a A ∧ IsBk K H b B ∧ A.Ok ∧ B.Ok ∧
  ∀ H' T ps f, Ex H H' → SqT K H' T ps → LkB A B f → DtAll K H' ps ((lks f A.sides.length B.sides.length).map prD) → Q (.ref T) H'
def sp_check_pair (w : World) (K : PySem.W.Frag) : Sp := fun vs H Q _ => ∃ (a b : V) (A B : Bk) (p q : Nat), vs = [a, .int p, b, .int q] ∧ IsBk K H a A ∧ IsBk K H b B ∧ p < A.sides.length ∧ q < B.sides.length ∧ Q .non H
def sp_is_alike (w : World) (K : PySem.W.Frag) : Sp := fun vs H Q _ => ∃ (a b : V) (A B : Bk) (p q : Nat), vs = [a, .int p, b, .int q] ∧ IsBk K H a A ∧ IsBk K H b B ∧ A.Ok ∧ B.Ok ∧ p < A.sides.length ∧ q < B.sides.length ∧
  ∀ H' x, Ex H H' → (x = true ↔ Lk A B p q) → Q (.bl x) H'
def N_likeness : List Str := ["one", "other", "strikes", "pairs", "place", "another", "pair"]
theorem sc_likeness : FnScope N_likeness ["one", "other"] (defScope s_likeness) := ⟨rfl, rfl, rfl, by decide +kernel, rfl, by decide +kernel, by decide +kernel⟩
/-- names: 0 one 1 other* 2 strikes* 3 pairs 4 place 5 another 6 pair -/
def t_likeness (P : Program) (w : World) (K : PySem.W.Frag) : TS :=
    (tSeq (tAsg (tMake (He.ga K "Strikes") (sp_Strikes___init__ w K) [] E0 (tCons (tVar 0) (tCons (tVar 1) tNil))) (gName 2))
    (tSeq (tAsg (tLc2 (iRng1 (tCons (tFld K (tVar 0) ("places" : Str)) tNil)) (gName 4) tYes (iRng1 (tCons (tFld K (tVar 1) ("places" : Str)) tNil)) (gName 5) tYes (tTup (tCons (tVar 4) (tCons (tVar 5) tNil))) [4, 5] [5]) (gName 3))
    (tRet (tCB (rTupQ K) (tCons (tLc (iList K (tVar 3)) (gName 6) (tNot (tB (tMth (He.ga K "Strikes") ("is_struck" : Str) (sp_Strikes_is_struck w K) (tVar 2) (tCons (tOp (rIxT K) (tVar 6) (tC (.int 0))) (tCons (tOp (rIxT K) (tVar 6) (tC (.int 1))) tNil))))) (tVar 6) [6]) tNil)))))
def N_check_pair : List Str := ["one", "place", "other", "another"]
theorem sc_check_pair : FnScope N_check_pair ["one", "place", "other", "another"] (defScope s_check_pair) := ⟨rfl, rfl, rfl, by decide +kernel, rfl, by decide +kernel, by decide +kernel⟩
/-- names: 0 one 1 place 2 other 3 another -/
def t_check_pair (P : Program) (w : World) (K : PySem.W.Frag) : TS :=
    (tSeq (tDrop (tFn (sp_check_place w K) (tCons (tVar 0) (tCons (tVar 1) tNil))))
    (tDrop (tFn (sp_check_place w K) (tCons (tVar 2) (tCons (tVar 3) tNil)))))
def N_is_alike : List Str := ["one", "place", "other", "another"]
theorem sc_is_alike : FnScope N_is_alike ["one", "place", "other", "another"] (defScope s_is_alike) := ⟨rfl, rfl, rfl, by decide +kernel, rfl, by decide +kernel, by decide +kernel⟩
/-- names: 0 one 1 place 2 other 3 another -/
def t_is_alike (P : Program) (w : World) (K : PySem.W.Frag) : TS :=
    (tSeq (tDrop (tFn (sp_check_pair w K) (tCons (tVar 0) (tCons (tVar 1) (tCons (tVar 2) (tCons (tVar 3) tNil))))))
    (tRet (tNotV (tMth (He.ga K "Strikes") ("is_struck" : Str) (sp_Strikes_is_struck w K) (tMake (He.ga K "Strikes") (sp_Strikes___init__ w K) [] E0 (tCons (tVar 0) (tCons (tVar 2) tNil))) (tCons (tVar 1) (tCons (tVar 3) tNil))))))
section
variable {P : Program} {w : World} {K : PySem.W.Frag} {mg : Str → Option Value} (E : Ctx w K mg)
include E
theorem rd_check_pair (vs : List V) (H : Hp) (Q : VK) (E0 : XK) (h : sp_check_pair w K vs H Q E0) : vs.length = 4 ∧ t_check_pair P w K { nx := fun _ H' => Q .non H', rt := Q } (start N_check_pair vs) H := by
  obtain ⟨a, b, A, B, p, q, rfl, hA, hB, hp, hq, k⟩ := h
  exact ⟨rfl, _, rfl, _, rfl, a, A, p, rfl, hA, hp, _, rfl, _, rfl, b, B, q, rfl, hB, hq, k⟩
end
theorem ok_check_pair {P : Program} {w : World} {K : PySem.W.Frag} {mg : Str → Option Value} {base : Heap} (E : Ctx w K mg) : DefOk P w K mg base "check_pair" [("one" : Str), ("place" : Str), ("other" : Str), ("another" : Str)] 3 (sp_check_pair w K) := by
  obtain ⟨fd, F⟩ := E.D_check_pair
  exact ⟨_, fd, fn_mk (t := t_check_pair P w K) F sc_check_pair (rd_check_pair E) (fun cdv A outer s H E0 hr => (pss_cons (ps_expr (pe_fn (ok_check_place E) (hr.mono (by decide)) (by rfl) (pa_cons (pv 0) (pa_cons (pv 1) pa_nil))))
    (pss_one (ps_expr (pe_fn (ok_check_place E) (hr.mono (by decide)) (by rfl) (pa_cons (pv 2) (pa_cons (pv 3) pa_nil))))))), (FunD.bindsN F (fun _ _ _ _ _ _ us hl => match us, hl with | [_, _, _, _], _ => rfl)), E.g_check_pair, F.kp⟩
/-- the heap of a new instance -/
theorem new_ex {H : Hp} {x dx C : Addr} (h1 : H x = none) (h2 : H dx = none) (n : dx ≠ x) : Ex H (upd (upd H dx (.own x)) x (.ins C dx [])) ∧ ∀ H', But x (upd (upd H dx (.own x)) x (.ins C dx [])) H' → Ex H H' := by
  have e : Ex H (upd (upd H dx (.own x)) x (.ins C dx [])) := fun a o q => by
    rw [upd_ne (ne_of_none q h1), upd_ne (ne_of_none q h2)]
    exact q
  exact ⟨e, fun H' b a o q => b a o (ne_of_none q h1) (e a o q)⟩
section
variable {P : Program} {w : World} {K : PySem.W.Frag} {mg : Str → Option Value} (E : Ctx w K mg)
include E
theorem rd_is_alike (vs : List V) (H : Hp) (Q : VK) (E0 : XK) (h : sp_is_alike w K vs H Q E0) : vs.length = 4 ∧ t_is_alike P w K { nx := fun _ H' => Q .non H', rt := Q } (start N_is_alike vs) H := by
  obtain ⟨a, b, A, B, p, q, rfl, hA, hB, oA, oB, hp, hq, k⟩ := h
  refine ⟨rfl, _, rfl, _, rfl, _, rfl, _, rfl, a, b, A, B, p, q, rfl, hA, hB, hp, hq, _, rfl, _, rfl, fun x dx hx hdx n => ?_⟩
  obtain ⟨e1, back⟩ := new_ex (C := He.ga K "Strikes") hx hdx n
  refine ⟨x, dx, a, b, A, B, rfl, upd_same, hA.ex e1, hB.ex e1, oA, oB, fun H1 d l kvs b1 hs hd en => ⟨rfl, ?_⟩⟩
  refine ⟨x, dx, _, rfl, hs, rfl, _, rfl, _, rfl, x, dx, d, l, a, b, p, q, kvs, rfl, hs, hd, fun H2 e2 => ⟨_, rfl, k H2 _ ((back H1 b1).trans e2) ?_⟩⟩
  have z := en p q hp hq
  rw [← z]
  cases stk kvs p q <;> simp
theorem rd_likeness (vs : List V) (H : Hp) (Q : VK) (E0 : XK) (h : sp_likeness w K vs H Q E0) : vs.length = 2 ∧ t_likeness P w K { nx := fun _ H' => Q .non H', rt := Q } (start N_likeness vs) H := by
  obtain ⟨a, b, A, B, rfl, hA, hB, oA, oB, k⟩ := h
  refine ⟨rfl, _, rfl, _, rfl, fun x dx hx hdx n => ?_⟩
  obtain ⟨e1, back⟩ := new_ex (C := He.ga K "Strikes") hx hdx n
  refine ⟨x, dx, a, b, A, B, rfl, upd_same, hA.ex e1, hB.ex e1, oA, oB, fun H1 d l kvs b1 hs hd en => ⟨rfl, ?_⟩⟩
  have e01 := back H1 b1
  obtain ⟨aa, adx, asa, ama, aga, ams, ags, rfl, ha1, _⟩ := id (hA.ex e01)
  obtain ⟨ba, bdx, bsa, bma, bga, bms, bgs, rfl, hb1, _⟩ := id (hB.ex e01)
  have iA := oA.n1
  have iB := oB.n1
  refine ⟨_, rfl, aa, _, adx, _, _, rfl, ha1, E.cls_Book, E.na_Book_places, rfl, _, rfl, by omega, by omega, ?_⟩
  rw [Int.toNat_natCast]
  intro D hD
  -- the pairs, in order
  refine ⟨fun i m H' => m = A.sides.length - i ∧ i ≤ A.sides.length ∧ Ex H1 H' ∧ ∃ acc, H' D = some (.lst acc) ∧ DtAll K H' acc ((pairs i B.sides.length).map prD), ⟨_, rfl, Nat.zero_le _, Ex.new hD, [], upd_same, .nil⟩, ?_⟩
  rintro i m H2 ⟨rfl, hi0, e2, acc, hl, al⟩
  by_cases hi : i < A.sides.length
  · refine .inr ⟨hi, _, fun H' z => z, ?_⟩
    rintro y H2' ⟨rfl, hy⟩
    have hy2 : y = .int (i : Nat) := hy.trans (congrArg V.int (Int.zero_add _))
    subst hy2
    refine ⟨rfl, _, rfl, ba, _, bdx, _, _, rfl, e2 _ _ hb1, E.cls_Book, E.na_Book_places, rfl, _, rfl, by omega, by omega, ?_⟩
    rw [Int.toNat_natCast]
    refine ⟨fun j m H3 => m = B.sides.length - j ∧ j ≤ B.sides.length ∧ Ex H1 H3 ∧ ∃ acc, H3 D = some (.lst acc) ∧ DtAll K H3 acc ((pairs i B.sides.length ++ (List.range j).map fun q => (i, q)).map prD), ⟨_, rfl, Nat.zero_le _, e2, acc, hl, by simpa using al⟩, ?_⟩
    rintro j m H3 ⟨rfl, hj, e3, acc3, hl3, al3⟩
    by_cases hlt : j < B.sides.length
    · refine .inr ⟨hlt, _, fun H' z => z, ?_⟩
      rintro z H3' ⟨rfl, hz⟩
      have hz2 : z = .int (j : Nat) := hz.trans (congrArg V.int (Int.zero_add _))
      subst hz2
      refine ⟨rfl, _, rfl, _, rfl, (by show 2 ≤ sizeLine; decide), fun T hT => ?_⟩
      have eT : Ex H3' (upd H3' T (.tup [.int (i : Nat), .int (j : Nat)])) := Ex.new hT
      have len3 : acc3.length ≤ 100 := by
        rw [al3.1, List.length_map, List.length_append, pairs_len, List.length_map, List.length_range]
        have : i * B.sides.length ≤ 7 * 7 := Nat.mul_le_mul (by omega) iB
        omega
      refine ⟨acc3, eT _ _ hl3, Evl.sz_lt (by omega), B.sides.length - (j + 1), by omega, rfl, hlt, ?_, acc3 ++ [.ref T], upd_same, ?_⟩
      · exact (e3.trans eT).mut hD
      · have e : (pairs i B.sides.length ++ (List.range (j + 1)).map fun q => (i, q)).map prD = (pairs i B.sides.length ++ (List.range j).map fun q => (i, q)).map prD ++ [prD (i, j)] := by
          rw [List.range_succ]
          simp
        rw [e]
        refine DtAll.tk (.up (eT _ _ hl3) noTup_lst) (.app (al3.tk (.ex eT)) (.one ?_))
        exact Dt.mk (Evl.st_of upd_same) (.cons (.int _) (.one (.int _)))
    · have e : j = B.sides.length := by omega
      subst e
      refine .inl ⟨Nat.le_refl _, A.sides.length - (i + 1), by omega, rfl, hi, e3, acc3, hl3, ?_⟩
      rw [pairs_succ]
      exact al3
  · have ei : i = A.sides.length := by omega
    subst ei
    refine .inl ⟨Nat.le_refl _, ?_⟩
    have len : acc.length ≤ 100 := by
      rw [al.1, List.length_map, pairs_len]
      have : A.sides.length * B.sides.length ≤ 7 * 7 := Nat.mul_le_mul iA iB
      omega
    refine ⟨_, rfl, D, rfl, ⟨_, Evl.sq_of hl⟩, fun D2 hD2 => ?_⟩
    refine lc_filt hD2 (walk_list (xs := acc)) (by omega) (parF acc (pairs A.sides.length B.sides.length) fun z => !stk kvs z.1 z.2) (fun H' e => Evl.ex_l e (Evl.sq_of hl)) ?_ ?_
    · rintro i y H3 H3' kk k0 hi e3 ⟨rfl, hy⟩ k1 k2
      have hz : (pairs A.sides.length B.sides.length)[i]? = some ((pairs A.sides.length B.sides.length)[i]'(by rw [← List.length_map (f := prD), ← al.1]; exact hi)) := List.getElem?_eq_getElem _
      generalize (pairs A.sides.length B.sides.length)[i]'_ = z at hz
      have dy := (al.2 i y _ hy (by rw [List.getElem?_map, hz]; rfl)).tk (.ex e3)
      obtain ⟨ya, ys, rfl, sy, ty⟩ := dy.tupD
      obtain ⟨u, v, rfl, d1, d2⟩ := ty.two
      rw [d1.intD, d2.intD] at sy
      have val : parF acc (pairs A.sides.length B.sides.length) (fun z => !stk kvs z.1 z.2) i = if (!stk kvs z.1 z.2) = true then some (.ref ya) else none := by
        unfold parF
        rw [hy, hz]
      have hs3 := e3 _ _ (e2 _ _ hs)
      refine ⟨rfl, _, rfl, x, dx, _, rfl, hs3, rfl, _, rfl, ya, _, 0, _, rfl, rfl, sy, rfl, _, rfl, ya, _, 1, _, rfl, rfl, sy, rfl, x, dx, d, l, _, _, z.1, z.2, kvs, rfl, hs3, e3 _ _ (e2 _ _ hd), fun H4 e4 => ⟨_, rfl, ?_⟩⟩
      refine ite2 (fun c => ⟨_, rfl, k1 _ _ (by rw [val, if_pos c]) e4⟩) fun c => k2 (by rw [val, if_neg c]) _ e4
    · intro H3 e3 hl3
      refine ⟨D2, _, rfl, .inl (Evl.sq_of hl3), fun T H4 e4 s4 => ?_⟩
      refine k H4 T _ (fun p q => !stk kvs p q) (((e01.trans e2).trans e3).trans e4) s4 (fun p q hp hq => ?_) ((par_filt prD _ acc _ (al.tk (.ex e3))).tk (.ex e4))
      have z := en p q hp hq
      show (!stk kvs p q) = true ↔ _
      rw [← z]
      cases stk kvs p q <;> simp
end
theorem ok_likeness {P : Program} {w : World} {K : PySem.W.Frag} {mg : Str → Option Value} {base : Heap} (E : Ctx w K mg) : DefOk P w K mg base "likeness" [("one" : Str), ("other" : Str)] 8 (sp_likeness w K) := by
  obtain ⟨fd, F⟩ := E.D_likeness
  exact ⟨_, fd, fn_mk (t := t_likeness P w K) F sc_likeness (rd_likeness E) (fun cdv A outer s H E0 hr => (pss_cons (ps_set (i := 2) sc_likeness.nd rfl (Or.inr rfl) (pe_new (mk_Strikes E) (hr.mono (by decide)) (by rfl) (pa_cons (pv 0) (pa_cons (pv 1) pa_nil))))
    (pss_cons (ps_setLc2 (i := 3) (own := [("place", 4), ("another", 5)]) (vs1 := [5]) (wi := (iRng1 (tCons (tFld K (tVar 0) ("places" : Str)) tNil))) (g := (gName 4)) (tt := tYes) (wi1 := (iRng1 (tCons (tFld K (tVar 1) ("places" : Str)) tNil))) (g1 := (gName 5)) (tt1 := tYes) (te := (tTup (tCons (tVar 4) (tCons (tVar 5) tNil)))) rfl sc_likeness.nd rfl rfl (sw_true rfl rfl rfl (by decide +kernel)) (pi_range1 (by rfl) E.f_range (pa_cons (pe_fld (pv 0) rfl) pa_nil)) (blkOk_by (own := [("place", 4), ("another", 5)]) (N := N_likeness) (sc := defScope s_likeness) (by decide +kernel)) (by decide) (fun _ _ _ _ _ => (pg_name (i := 4) sc_likeness.nd rfl (Or.inl rfl))) (fun _ _ _ _ _ => pts_nil) (fun _ _ _ _ _ => (pi_range1 (by rfl) E.f_range (pa_cons (pe_fld (pv 1) rfl) pa_nil))) (fun _ _ _ _ _ => (pg_name (i := 5) sc_likeness.nd rfl (Or.inl rfl))) (fun _ _ _ _ _ => pts_nil) (fun _ _ _ _ _ => (pe_tup (pa_cons (pv 4) (pa_cons (pv 5) pa_nil)))))
    (pss_one (ps_ret (pe_callTy call_tuple_q (by rfl) E.f_tuple (by decide +kernel) (pa_cons (pe_lc (own := [("pair", 6)]) (wi := (iList K (tVar 3))) (g := (gName 6)) (tt := (tNot (tB (tMth (He.ga K "Strikes") ("is_struck" : Str) (sp_Strikes_is_struck w K) (tVar 2) (tCons (tOp (rIxT K) (tVar 6) (tC (.int 0))) (tCons (tOp (rIxT K) (tVar 6) (tC (.int 1))) tNil)))))) (te := (tVar 6)) rfl sc_likeness.nd (pi_list (pv 3)) (blkOk_by (own := [("pair", 6)]) (N := N_likeness) (sc := defScope s_likeness) (by decide +kernel)) (fun _ _ _ _ _ => (pg_name (i := 6) sc_likeness.nd rfl (Or.inl rfl))) (fun _ _ _ _ _ => (pts_one (pt_not (pt_val (pe_mth (ok_Strikes_is_struck E) E.cls_Strikes (hr.mono (by decide)) (pv 2) (pa_cons (pe_ix ix_tup (pv 6) pe_int (fun _ _ => rfl)) (pa_cons (pe_ix ix_tup (pv 6) pe_int (fun _ _ => rfl)) pa_nil))))))) (fun _ _ _ _ _ => (pv 6))) pa_nil))))))), (FunD.bindsN F (fun _ _ _ _ _ _ us hl => match us, hl with | [_, _], _ => rfl)), E.g_likeness, F.kp⟩
theorem ok_is_alike {P : Program} {w : World} {K : PySem.W.Frag} {mg : Str → Option Value} {base : Heap} (E : Ctx w K mg) : DefOk P w K mg base "is_alike" [("one" : Str), ("place" : Str), ("other" : Str), ("another" : Str)] 8 (sp_is_alike w K) := by
  obtain ⟨fd, F⟩ := E.D_is_alike
  exact ⟨_, fd, fn_mk (t := t_is_alike P w K) F sc_is_alike (rd_is_alike E) (fun cdv A outer s H E0 hr => (pss_cons (ps_expr (pe_fn (ok_check_pair E) (hr.mono (by decide)) (by rfl) (pa_cons (pv 0) (pa_cons (pv 1) (pa_cons (pv 2) (pa_cons (pv 3) pa_nil))))))
    (pss_one (ps_ret (pe_not (pe_mth (ok_Strikes_is_struck E) E.cls_Strikes (hr.mono (by decide)) (pe_new (mk_Strikes E) (hr.mono (by decide)) (by rfl) (pa_cons (pv 0) (pa_cons (pv 2) pa_nil))) (pa_cons (pv 1) (pa_cons (pv 3) pa_nil)))))))), (FunD.bindsN F (fun _ _ _ _ _ _ us hl => match us, hl with | [_, _, _, _], _ => rfl)), E.g_is_alike, F.kp⟩
end K28

set_option Elab.async false
set_option linter.all false
set_option maxRecDepth 100000
set_option maxHeartbeats 4000000
namespace K28
open PySem PySem.Spec PyProof.Rows L2
open Evl (Ex)

theorem canAll {α : Type} {g : α → PyData} (h : ∀ a, (g a).canLay0 = true) : ∀ l : List α, PyData.canLayAll0 (l.map g) = true
  | [] => by simp only [List.map_nil, PyData.canLayAll0]
  | a :: l => by
    rw [List.map_cons, PyData.canLayAll0, h a, canAll h l]
    rfl
theorem depAll {α : Type} {g : α → PyData} {k : Nat} (h : ∀ a, (g a).depth ≤ k) : ∀ l : List α, PyData.depthAll (l.map g) ≤ k
  | [] => by
    simp only [List.map_nil, PyData.depthAll]
    omega
  | a :: l => by
    rw [List.map_cons, PyData.depthAll]
    exact Nat.max_le.mpr ⟨h a, depAll h l⟩
theorem shp {d : PyData} (h1 : d.canLay0 = true) (h2 : d.depth ≤ 64) : SeqAt.shaped d = true := by
  unfold SeqAt.shaped
  rw [h1, decide_eq_true h2]
  rfl
theorem pr_can (z : Nat × Nat) : (prD z).canLay0 = true := by
  simp [prD, PyData.canLay0, PyData.canLayAll0]
theorem pr_dep (z : Nat × Nat) : (prD z).depth ≤ 1 := by
  simp [prD, PyData.depth, PyData.depthAll]
theorem pr_shp (z : Nat × Nat) : SeqAt.shaped (prD z) = true := shp (pr_can z) (Nat.le_trans (pr_dep z) (by decide))
theorem prs_shp (l : List (Nat × Nat)) : SeqAt.shaped (.tuple (l.map prD)) = true := shp (by simp only [PyData.canLay0]; exact canAll pr_can l) (by
  have := depAll pr_dep l
  simp only [PyData.depth]
  omega)
theorem eqv_pr (a b : Nat × Nat) : PyData.eqv (prD a) (prD b) = decide (a = b) := by
  have h := PySem.W.Datum.eqv (α := Int × Int) ((a.1 : Int), (a.2 : Int)) ((b.1 : Int), (b.2 : Int))
  have h2 : PyData.eqv (prD a) (prD b) = decide ((((a.1 : Nat) : Int), ((a.2 : Nat) : Int)) = (((b.1 : Nat) : Int), ((b.2 : Nat) : Int))) := h
  rw [h2]
  refine decide_eq_decide.mpr ⟨fun e => ?_, fun e => by rw [e]⟩
  injection e with e1 e2
  exact Prod.ext (Int.ofNat.inj e1) (Int.ofNat.inj e2)
theorem any_pr (l : List (Nat × Nat)) (z : Nat × Nat) : (l.map prD).any (fun d => PyData.eqv d (prD z)) = decide (z ∈ l) := by
  rw [List.any_map]
  by_cases h : z ∈ l
  · rw [decide_eq_true h]
    exact List.any_eq_true.mpr ⟨z, h, by show PyData.eqv (prD z) (prD z) = true; rw [eqv_pr]; exact decide_eq_true rfl⟩
  · rw [decide_eq_false h]
    refine Bool.eq_false_iff.mpr fun q => h ?_
    obtain ⟨y, hy, e⟩ := List.any_eq_true.mp q
    have e2 : PyData.eqv (prD y) (prD z) = true := e
    rw [eqv_pr] at e2
    rw [← of_decide_eq_true e2]
    exact hy
theorem mem_lks {f : Nat → Nat → Bool} {n m p q : Nat} (hp : p < n) (hq : q < m) : ((p, q) ∈ lks f n m) ↔ f p q = true := by
  unfold lks
  rw [List.mem_filter]
  exact ⟨fun h => h.2, fun h => ⟨mem_pairs.mpr ⟨hp, hq⟩, h⟩⟩
/-- the classes' numbers, place by place -/
def cnum (f : Nat → Nat → Bool) : Nat → List Int
  | 0 => []
  | n + 1 => cnum f n ++ [match (List.range n).filter (fun o => f o n) with
    | o :: _ => (cnum f n).getD o 0
    | [] => maxOr (-1) (cnum f n) + 1]
theorem cnum_len (f : Nat → Nat → Bool) : ∀ n, (cnum f n).length = n
  | 0 => rfl
  | n + 1 => by
    unfold cnum
    rw [List.length_append, cnum_len f n]
    rfl
theorem cnum_nil {f : Nat → Nat → Bool} {n : Nat} (q : (List.range n).filter (fun o => f o n) = []) : cnum f (n + 1) = cnum f n ++ [maxOr (-1) (cnum f n) + 1] := by
  show cnum f n ++ [match (List.range n).filter (fun o => f o n) with
    | o :: _ => (cnum f n).getD o 0
    | [] => maxOr (-1) (cnum f n) + 1] = _
  rw [q]
theorem cnum_cons {f : Nat → Nat → Bool} {n o : Nat} {r : List Nat} (q : (List.range n).filter (fun o => f o n) = o :: r) : cnum f (n + 1) = cnum f n ++ [(cnum f n).getD o 0] := by
  show cnum f n ++ [match (List.range n).filter (fun o => f o n) with
    | o :: _ => (cnum f n).getD o 0
    | [] => maxOr (-1) (cnum f n) + 1] = _
  rw [q]
def sp_classes (w : World) (K : PySem.W.Frag) : Sp := fun vs H Q _ => ∃ (b : V) (B : Bk), vs = [b] ∧ IsBk K H b B ∧ B.Ok ∧ ∀ H' T f, Ex H H' → LkB B B f → SqT K H' T ((cnum f B.sides.length).map V.int) → Q (.ref T) H'
def N_classes : List Str := ["book", "pairs", "found", "place", "before", "other"]
theorem sc_classes : FnScope N_classes ["book"] (defScope s_classes) := ⟨rfl, rfl, rfl, by decide +kernel, rfl, by decide +kernel, by decide +kernel⟩
/-- names: 0 book 1 pairs* 2 found 3 place* 4 before 5 other -/
def t_classes (P : Program) (w : World) (K : PySem.W.Frag) : TS :=
    (tSeq (tAsg (tTup (tCons (tFn (sp_likeness w K) (tCons (tVar 0) (tCons (tVar 0) tNil))) (tCons (tLst tNil) tNil))) (gTup K 2 (gCons (gName 1) (gCons (gName 2) gNil))))
    (tSeq (tFor (iRng1 (tCons (tFld K (tVar 0) ("places" : Str)) tNil)) (gName 3)
    (tSeq (tAsg (tLc (iRng1 (tCons (tVar 3) tNil)) (gName 5) (tTest (tOp (rInT K) (tTup (tCons (tVar 5) (tCons (tVar 3) tNil))) (tVar 1))) (tVar 5) [5]) (gName 4))
    (tDrop (tBM K "list" rAppend (tVar 2) (tCons (tIf (tTest (tOp rGtI (tCB (rLenX K) (tCons (tVar 4) tNil)) (tC (.int 0)))) (tOp (rIxL K) (tVar 2) (tOp (rIxL K) (tVar 4) (tC (.int 0)))) (tOp rAddI (tCKw (rMaxD K) (tCons (tVar 2) tNil) (tCons (tUn rNegI (tC (.int 1))) tNil)) (tC (.int 1)))) tNil)))))
    (tRet (tCB (rTupQ K) (tCons (tVar 2) tNil)))))
section
variable {P : Program} {w : World} {K : PySem.W.Frag} {mg : Str → Option Value} (E : Ctx w K mg)
include E
theorem rd_classes (vs : List V) (H : Hp) (Q : VK) (E0 : XK) (h : sp_classes w K vs H Q E0) : vs.length = 1 ∧ t_classes P w K { nx := fun _ H' => Q .non H', rt := Q } (start N_classes vs) H := by
  obtain ⟨b, B, rfl, hB, ok, k⟩ := h
  have n1 := ok.n1
  refine ⟨rfl, _, rfl, _, rfl, b, b, B, B, rfl, hB, hB, ok, ok, fun H1 T ps f e1 sT lkb al => ?_⟩
  refine ⟨(by show 0 ≤ sizeLine; decide), fun F hF => ⟨(by show 2 ≤ sizeLine; decide), fun T0 hT0 => ⟨T0, _, rfl, Evl.st_of upd_same, rfl, _, _, rfl, _, _, rfl, rfl, ?_⟩⟩⟩
  have hFT : T0 ≠ F := fun z => by rw [z, upd_same] at hT0; cases hT0
  have e2 : Ex H1 (upd (upd H1 F (.lst [])) T0 (.tup [.ref T, .ref F])) := (Ex.new hF).trans (Ex.new hT0)
  have hF2 : upd (upd H1 F (.lst [])) T0 (.tup [.ref T, .ref F]) F = some (.lst []) := by rw [upd_ne hFT.symm, upd_same]
  obtain ⟨a, dx, sa, ma, ga, ms, gs, rfl, hb, _⟩ := id (hB.ex (e1.trans e2))
  refine ⟨_, rfl, a, _, dx, _, _, rfl, hb, E.cls_Book, E.na_Book_places, rfl, _, rfl, by omega, by omega, ?_⟩
  rw [Int.toNat_natCast]
  refine for_it walk_range (fun i σ H' => (∃ x3 x4 x5, σ = [some (.ref a), some (.ref T), some (.ref F), x3, x4, x5]) ∧ Ex H1 H' ∧ H' F = some (.lst ((cnum f i).map V.int))) ⟨⟨none, none, none, rfl⟩, e2, hF2⟩ (fun _ _ _ _ _ => trivial) ?_ ?_
  · rintro i x σ H2 H2' hi ⟨⟨x3, x4, x5, rfl⟩, e3, hl⟩ ⟨rfl, hx⟩
    have hx2 : x = .int (i : Nat) := hx.trans (congrArg V.int (Int.zero_add _))
    subst hx2
    refine ⟨_, rfl, _, rfl, by omega, by omega, ?_⟩
    rw [Int.toNat_natCast]
    intro D hD
    refine lc_filt hD (walk_range (lo := 0) (n := i)) (by omega) (fun o => if f o i = true then some (.int (o : Nat)) else none) (fun _ _ => trivial) ?_ ?_
    · rintro o y H3 H3' kk k0 ho e4 ⟨rfl, hy⟩ k1 k2
      have hy2 : y = .int (o : Nat) := hy.trans (congrArg V.int (Int.zero_add _))
      subst hy2
      refine ⟨rfl, _, rfl, _, rfl, (by show 2 ≤ sizeLine; decide), fun t ht => ?_⟩
      have et : Ex H3' (upd H3' t (.tup [.int (o : Nat), .int (i : Nat)])) := Ex.new ht
      refine ⟨_, rfl, prD (o, i), (lks f B.sides.length B.sides.length).map prD, ?_, ?_, pr_shp _, prs_shp _, _, rfl, ?_⟩
      · exact (Dt.mk (Evl.st_of upd_same) (.cons (.int _) (.one (.int _)))).dp
      · exact (Dt.mk (Evl.ex_t ((e3.trans e4).trans et) sT) (al.tk (.ex ((e3.trans e4).trans et)))).dp
      · rw [any_pr]
        refine ite2 (fun c => ⟨_, rfl, k1 _ _ (if_pos ?_) et⟩) fun c => k2 (if_neg fun z => c (decide_eq_true ((mem_lks (by omega) hi).mpr z))) _ et
        exact (mem_lks (by omega) hi).mp (of_decide_eq_true c)
    · intro H3 e4 hl3
      rw [fm_filter (c := fun o => f o i) (g := fun o : Nat => V.int o) (fun _ _ => rfl)] at hl3
      have hF3 := e4 _ _ hl
      have lenc := cnum_len f i
      cases q : (List.range i).filter (fun o => f o i) with
      | nil =>
        rw [q] at hl3
        refine ⟨_, rfl, .inl ⟨rfl, _, Evl.sq_of hF3⟩, _, rfl, _, _, rfl, .inl ⟨_, Evl.sq_of hl3, rfl⟩, _, 0, rfl, rfl, false, rfl, ?_⟩
        refine ⟨_, rfl, 1, rfl, F, cnum f i, -1, rfl, rfl, Evl.sq_of hF3, _, 1, rfl, rfl, F, _, _, rfl, rfl, hF3, Evl.sz_lt (by rw [List.length_map, lenc]; omega), ⟨_, _, _, rfl⟩, ?_, ?_⟩
        · exact (e3.trans e4).mut hF
        · rw [upd_same, cnum_nil q, List.map_append]
          rfl
      | cons o r =>
        rw [q] at hl3
        have ho : o < i := by
          have : o ∈ (List.range i).filter (fun o => f o i) := by rw [q]; exact List.mem_cons_self
          simpa using (List.mem_filter.mp this).1
        have hval : ((cnum f i).map V.int)[o]? = some (V.int ((cnum f i).getD o 0)) := by
          rw [List.getElem?_map, List.getElem?_eq_getElem (by omega), List.getD_eq_getElem?_getD, List.getElem?_eq_getElem (by omega)]
          rfl
        refine ⟨_, rfl, .inl ⟨rfl, _, Evl.sq_of hF3⟩, _, rfl, _, _, rfl, .inl ⟨_, Evl.sq_of hl3, rfl⟩, _, 0, rfl, rfl, true, bt (by rw [List.length_map, List.length_cons]; omega), ?_⟩
        refine ⟨_, rfl, _, rfl, D, _, 0, _, rfl, rfl, Evl.sq_of hl3, atI_nat (j := 0) rfl, F, _, (o : Nat), _, rfl, rfl, Evl.sq_of hF3, atI_nat hval, F, _, _, rfl, rfl, hF3, Evl.sz_lt (by rw [List.length_map, lenc]; omega), ⟨_, _, _, rfl⟩, ?_, ?_⟩
        · exact (e3.trans e4).mut hF
        · rw [upd_same, cnum_cons q, List.map_append]
          rfl
  · rintro σ H2 ⟨⟨x3, x4, x5, rfl⟩, e3, hl⟩
    exact ⟨_, rfl, F, _, rfl, .inl (Evl.sq_of hl), fun T2 H3 e4 s4 => k H3 T2 f ((e1.trans e3).trans e4) lkb s4⟩
end
theorem ok_classes {P : Program} {w : World} {K : PySem.W.Frag} {mg : Str → Option Value} {base : Heap} (E : Ctx w K mg) : DefOk P w K mg base "classes" [("book" : Str)] 9 (sp_classes w K) := by
  obtain ⟨fd, F⟩ := E.D_classes
  exact ⟨_, fd, fn_mk (t := t_classes P w K) F sc_classes (rd_classes E) (fun cdv A outer s H E0 hr => (pss_cons (ps_asg (pe_tup (pa_cons (pe_fn (ok_likeness E) (hr.mono (by decide)) (by rfl) (pa_cons (pv 0) (pa_cons (pv 0) pa_nil))) (pa_cons (pe_lst pa_nil) pa_nil))) (pg_tup rfl (pgs_cons (pg_name (i := 1) sc_classes.nd rfl (Or.inr rfl)) (pgs_cons (pg_name (i := 2) sc_classes.nd rfl (Or.inl rfl)) pgs_nil))))
    (pss_cons (ps_for PassesOwn.never rfl (pi_range1 (by rfl) E.f_range (pa_cons (pe_fld (pv 0) rfl) pa_nil)) (pg_name (i := 3) sc_classes.nd rfl (Or.inr rfl))
    (pss_cons (ps_setLc (i := 4) (own := [("other", 5)]) (wi := (iRng1 (tCons (tVar 3) tNil))) (g := (gName 5)) (tt := (tTest (tOp (rInT K) (tTup (tCons (tVar 5) (tCons (tVar 3) tNil))) (tVar 1)))) (te := (tVar 5)) rfl sc_classes.nd rfl rfl (sw_true rfl rfl rfl (by decide +kernel)) (pi_range1 (by rfl) E.f_range (pa_cons (pv 3) pa_nil)) (blkOk_by (own := [("other", 5)]) (N := N_classes) (sc := defScope s_classes) (by decide +kernel)) (fun _ _ _ _ _ => (pg_name (i := 5) sc_classes.nd rfl (Or.inl rfl))) (fun _ _ _ _ _ => (pts_one (pt_cmpR (op_inT (room65 hr)) (pe_tup (pa_cons (pv 5) (pa_cons (pv 3) pa_nil))) (pv 1) (by rfl)))) (fun _ _ _ _ _ => (pv 5)))
    (pss_one (ps_expr (pe_bm PySem.F.plainAttrs_list PySem.F.slot_list_append PySem.F.type_list_append mt_append (pv 2) (pa_cons (pe_ifExp (pt_cmpR op_gt (pe_callB call_len (by rfl) E.f_len (by decide +kernel) (pa_cons (pv 4) pa_nil)) pe_int (nomark _)) (pe_ix ix_list (pv 2) (pe_ix ix_list (pv 4) pe_int (fun _ _ => rfl)) (fun _ _ => rfl)) (pe_op op_add (pe_maxD rfl (room65 hr) (by rfl) E.f_max (pv 2) (pe_un un_neg pe_int)) pe_int)) pa_nil))))))
    (pss_one (ps_ret (pe_callTy call_tuple_q (by rfl) E.f_tuple (by decide +kernel) (pa_cons (pv 2) pa_nil))))))), (FunD.bindsN F (fun _ _ _ _ _ _ us hl => match us, hl with | [_], _ => rfl)), E.g_classes, F.kp⟩
end K28

set_option Elab.async false
set_option linter.all false
set_option maxRecDepth 100000
set_option maxHeartbeats 4000000
namespace K28
open PySem PySem.Spec PyProof.Rows L2
open Evl (Ex)

/-! ## the pen -/
def penD (c : Addr) (a g k f : Int) : List (Key × V) := [(.inr "cells", .ref c), (.inr "at", .int a), (.inr "digits", .int g), (.inr "count", .int k), (.inr "fold", .int f)]
section
variable {H : Hp} {p c : Addr} {a g k f : Int} (h : H p = some (.dK (penD c a g k f)))
include h
theorem dg_cells : DGet H p (.str "cells") (some (.ref c)) := DGet.k (k := .inr "cells") h
theorem dg_at : DGet H p (.str "at") (some (.int a)) := DGet.k (k := .inr "at") h
theorem dg_digits : DGet H p (.str "digits") (some (.int g)) := DGet.k (k := .inr "digits") h
theorem dg_count : DGet H p (.str "count") (some (.int k)) := DGet.k (k := .inr "count") h
theorem dg_fold : DGet H p (.str "fold") (some (.int f)) := DGet.k (k := .inr "fold") h
theorem dp_at (j : Int) : DPut H p (.str "at") (.int j) (upd H p (.dK (penD c j g k f))) := DPut.k (k := .inr "at") h (by show 5 < sizeLine; decide)
theorem dp_digits (j : Int) : DPut H p (.str "digits") (.int j) (upd H p (.dK (penD c a j k f))) := DPut.k (k := .inr "digits") h (by show 5 < sizeLine; decide)
theorem dp_count (j : Int) : DPut H p (.str "count") (.int j) (upd H p (.dK (penD c a g j f))) := DPut.k (k := .inr "count") h (by show 5 < sizeLine; decide)
theorem dp_fold (j : Int) : DPut H p (.str "fold") (.int j) (upd H p (.dK (penD c a g k j))) := DPut.k (k := .inr "fold") h (by show 5 < sizeLine; decide)
end
def Pen (H : Hp) (p c : Addr) (n : Nat) : Prop := ∃ (ns : List Int) (a g k f : Int), H p = some (.dK (penD c a g k f)) ∧ H c = some (.lst (ns.map V.int)) ∧ 0 ≤ a ∧ 0 ≤ g ∧ 0 ≤ k ∧ k ≤ (n : Nat) ∧ 0 ≤ f ∧ f < 2147483587
section
variable {K : PySem.W.Frag} {H H' : Hp} {p c : Addr} {n : Nat}
theorem Pen.mono {m : Nat} (l : n ≤ m) (h : Pen H p c n) : Pen H p c m := by
  obtain ⟨ns, a, g, k, f, h1, h2, h3, h4, h5, h6, h7⟩ := h
  exact ⟨ns, a, g, k, f, h1, h2, h3, h4, h5, by omega, h7⟩
theorem Pen.ex (e : Ex H H') (h : Pen H p c n) : Pen H' p c n := by
  obtain ⟨ns, a, g, k, f, h1, h2, h3⟩ := h
  exact ⟨ns, a, g, k, f, e _ _ h1, e _ _ h2, h3⟩
theorem Pen.dK (h : Pen H p c n) : ∃ kvs, H p = some (.dK kvs) := by
  obtain ⟨ns, a, g, k, f, h1, _⟩ := h
  exact ⟨_, h1⟩
theorem Pen.pn (h : Pen H p c n) : H p ≠ none := by
  obtain ⟨kvs, q⟩ := h.dK
  rw [q]
  exact fun z => by cases z
theorem Pen.cn (h : Pen H p c n) : H c ≠ none := by
  obtain ⟨ns, a, g, k, f, h1, h2, _⟩ := h
  rw [h2]
  exact fun z => by cases z
/-- what stays when only the pen writes -/
theorem Pen.sq (h : Pen H p c n) (e : But p H H') : Sq K H H' := by
  obtain ⟨kvs, q⟩ := h.dK
  exact Sq.dK e q
theorem Pen.kp (h : Pen H p c n) (e : But p H H') : Kp K H H' := by
  obtain ⟨kvs, q⟩ := h.dK
  exact Kp.butK e q
/-- a list is stored elsewhere -/
theorem Pen.lst (h : Pen H p c n) {D : Addr} {zs : List V} (hD : LstAt H D) (n2 : c ≠ D) : Pen (upd H D (.lst zs)) p c n := by
  obtain ⟨ns, a, g, k, f, h1, h2, h3⟩ := h
  obtain ⟨ws, hw⟩ := hD
  have n1 : p ≠ D := ne_of h1 hw (by intro z; cases z)
  exact ⟨ns, a, g, k, f, by rw [upd_ne n1]; exact h1, by rw [upd_ne n2]; exact h2, h3⟩
end
theorem at_int {α : Type} {xs : List α} {i : Int} (h0 : 0 ≤ i) {v : α} (h : xs[i.toNat]? = some v) : atI xs i = some v := by
  have e : ((i.toNat : Nat) : Int) = i := by omega
  have q := atI_nat h
  rw [e] at q
  exact q
def sp__law_pen (w : World) (K : PySem.W.Frag) : Sp := fun vs H Q _ => ∃ (a : Addr) (ns : List Int), vs = [.ref a] ∧ SqL K H a (ns.map V.int) ∧ ∀ H' p c, Ex H H' → Pen H' p c 0 → Q (.ref p) H'
def sp__law_draw (w : World) (K : PySem.W.Frag) : Sp := fun vs H Q _ => ∃ (p c : Addr) (n : Nat) (m : Int), vs = [.ref p, .int m] ∧ Pen H p c n ∧ n ≤ 1000000000 ∧ 1 ≤ m ∧ m < 1073741824 ∧ ∀ H' i, But p H H' → Pen H' p c (n + 1) → 0 ≤ i → i < m → Q (.int i) H'
def sp__law_pick (w : World) (K : PySem.W.Frag) : Sp := fun vs H Q _ => ∃ (p c a : Addr) (n : Nat) (xs : List V), vs = [.ref p, .ref a] ∧ Pen H p c n ∧ n ≤ 1000000000 ∧ Sq2 K H a xs ∧ xs ≠ [] ∧ xs.length < 1000000 ∧ ∀ H' x, But p H H' → Pen H' p c (n + 1) → x ∈ xs → Q x H'
def sp__law_is (w : World) (K : PySem.W.Frag) : Sp := fun vs H Q _ => ∃ x y : Bool, vs = [.bl x, .bl y] ∧ Q (.bl (decide (x = y))) H
def sp__law_listed (w : World) (K : PySem.W.Frag) : Sp := fun vs H Q _ => ∃ (p c a : Addr) (n : Nat) (xs : List V), vs = [.ref p, .ref a] ∧ Pen H p c n ∧ n ≤ 1000000000 ∧ Sq2 K H a xs ∧ ∀ H' b, But p H H' → Pen H' p c (n + 1) → (SqT K H' b xs ∨ (H b = none ∧ H' b = some (.lst xs))) → Q (.ref b) H'
def N__law_pen : List Str := ["_law_script", "_law_fold", "_law_cell"]
theorem sc__law_pen : FnScope N__law_pen ["_law_script"] (defScope s__law_pen) := ⟨rfl, rfl, rfl, by decide +kernel, rfl, by decide +kernel, by decide +kernel⟩
/-- names: 0 _law_script 1 _law_fold 2 _law_cell -/
def t__law_pen (P : Program) (w : World) (K : PySem.W.Frag) : TS :=
    (tSeq (tAsg (tC (.int 0)) (gName 1))
    (tSeq (tFor (iList K (tVar 0)) (gName 2)
    (tAsg (tOp rModI (tCB rInt1 (tCons (tOp rAddI (tOp rMulI (tVar 1) (tC (.int 43))) (tVar 2)) tNil)) (tC (.int 1000000007))) (gName 1)))
    (tRet (tDisp [((tC (.str "cells")), (tCB (rListOf K) (tCons (tVar 0) tNil))), ((tC (.str "at")), (tC (.int 0))), ((tC (.str "digits")), (tC (.int 0))), ((tC (.str "count")), (tC (.int 0))), ((tC (.str "fold")), (tVar 1))]))))
def N__law_draw : List Str := ["_law_pen_here", "_law_many", "_law_cell", "_law_digit", "_law_mixed"]
theorem sc__law_draw : FnScope N__law_draw ["_law_pen_here", "_law_many"] (defScope s__law_draw) := ⟨rfl, rfl, rfl, by decide +kernel, rfl, by decide +kernel, by decide +kernel⟩
/-- names: 0 _law_pen_here 1 _law_many 2 _law_cell 3 _law_digit 4 _law_mixed -/
def t__law_draw (P : Program) (w : World) (K : PySem.W.Frag) : TS :=
    (tSeq (sDPut (tVar 0) (tC (.str "count")) (tOp rAddI (tDGet (tVar 0) (tC (.str "count"))) (tC (.int 1))))
    (tSeq (tIfS (tAnd (tTest (tOp rEq (tDGet (tVar 0) (tC (.str "digits"))) (tC (.int 0)))) (tTest (tOp rLtI (tDGet (tVar 0) (tC (.str "at"))) (tCB (rLenX K) (tCons (tDGet (tVar 0) (tC (.str "cells"))) tNil)))))
    (tSeq (tAsg (tOp (rIxL K) (tDGet (tVar 0) (tC (.str "cells"))) (tDGet (tVar 0) (tC (.str "at")))) (gName 2))
    (tSeq (sDPut (tVar 0) (tC (.str "at")) (tOp rAddI (tDGet (tVar 0) (tC (.str "at"))) (tC (.int 1))))
    (tIfS (tTest (tOp rGeI (tVar 2) (tOp rPowI (tC (.int 10)) (tC (.int 18)))))
    (sDPut (tVar 0) (tC (.str "digits")) (tOp rSubI (tVar 2) (tOp rPowI (tC (.int 10)) (tC (.int 18)))))
    (sDPut (tVar 0) (tC (.str "fold")) (tOp rModI (tCB rInt1 (tCons (tOp rAddI (tOp rMulI (tDGet (tVar 0) (tC (.str "fold"))) (tC (.int 1664525))) (tVar 2)) tNil)) (tC (.int 2147483587)))))))
    tNext)
    (tSeq (tIfS (tTest (tOp rGtI (tDGet (tVar 0) (tC (.str "digits"))) (tC (.int 0))))
    (tSeq (tAsg (tOp rModI (tCB rInt1 (tCons (tDGet (tVar 0) (tC (.str "digits"))) tNil)) (tVar 1)) (gName 3))
    (tSeq (sDPut (tVar 0) (tC (.str "digits")) (tOp rFdivI (tDGet (tVar 0) (tC (.str "digits"))) (tVar 1)))
    (tRet (tVar 3))))
    tNext)
    (tSeq (tAsg (tOp rAddI (tOp rAddI (tDGet (tVar 0) (tC (.str "fold"))) (tOp rMulI (tDGet (tVar 0) (tC (.str "count"))) (tC (.int 7919)))) (tC (.int 41))) (gName 4))
    (tRet (tOp rModI (tOp rFdivI (tCB rInt1 (tCons (tOp rModI (tOp rPowI (tVar 4) (tC (.int 17))) (tC (.int 2305843009213693951))) tNil)) (tC (.int 128))) (tVar 1)))))))
def N__law_pick : List Str := ["_law_pen_here", "_law_some"]
theorem sc__law_pick : FnScope N__law_pick ["_law_pen_here", "_law_some"] (defScope s__law_pick) := ⟨rfl, rfl, rfl, by decide +kernel, rfl, by decide +kernel, by decide +kernel⟩
/-- names: 0 _law_pen_here 1 _law_some -/
def t__law_pick (P : Program) (w : World) (K : PySem.W.Frag) : TS :=
    (tRet (tOp (rIx K) (tVar 1) (tFn (sp__law_draw w K) (tCons (tVar 0) (tCons (tCB (rLenX K) (tCons (tVar 1) tNil)) tNil)))))
def N__law_is : List Str := ["_law_value", "_law_due"]
theorem sc__law_is : FnScope N__law_is ["_law_value", "_law_due"] (defScope s__law_is) := ⟨rfl, rfl, rfl, by decide +kernel, rfl, by decide +kernel, by decide +kernel⟩
/-- names: 0 _law_value 1 _law_due -/
def t__law_is (P : Program) (w : World) (K : PySem.W.Frag) : TS :=
    (tRet (tIf (tB (tVar 1)) (tOp rIsB (tVar 0) (tC (.bl true))) (tOp rIsB (tVar 0) (tC (.bl false)))))
def N__law_listed : List Str := ["_law_pen_here", "_law_row"]
theorem sc__law_listed : FnScope N__law_listed ["_law_pen_here", "_law_row"] (defScope s__law_listed) := ⟨rfl, rfl, rfl, by decide +kernel, rfl, by decide +kernel, by decide +kernel⟩
/-- names: 0 _law_pen_here 1 _law_row -/
def t__law_listed (P : Program) (w : World) (K : PySem.W.Frag) : TS :=
    (tRet (tFn (sp__law_pick w K) (tCons (tVar 0) (tCons (tLst (tCons (tCB (rTupQ K) (tCons (tVar 1) tNil)) (tCons (tCB (rListOf K) (tCons (tVar 1) tNil)) tNil))) tNil))))
section
variable {P : Program} {w : World} {K : PySem.W.Frag} {mg : Str → Option Value} (E : Ctx w K mg)
include E
theorem rd__law_pen (vs : List V) (H : Hp) (Q : VK) (E0 : XK) (h : sp__law_pen w K vs H Q E0) : vs.length = 1 ∧ t__law_pen P w K { nx := fun _ H' => Q .non H', rt := Q } (start N__law_pen vs) H := by
  obtain ⟨a, ns, rfl, s, q⟩ := h
  refine ⟨rfl, _, rfl, a, rfl, ⟨_, s⟩, ?_⟩
  refine for_it (walk_list (xs := ns.map V.int)) (fun i σ H' => (∃ (f : Int) (x2 : Option V), σ = [some (.ref a), some (.int f), x2] ∧ 0 ≤ f ∧ f < 1000000007) ∧ H' = H) ⟨⟨0, none, rfl, by decide, by decide⟩, rfl⟩ (fun _ _ _ _ z => by rw [z.2]; exact s) ?_ ?_
  · rintro i x σ H1 H1' hi ⟨⟨f, x2, rfl, f0, f1⟩, rfl⟩ ⟨rfl, hx⟩
    rw [List.length_map] at hi
    rw [List.getElem?_map, List.getElem?_eq_getElem hi] at hx
    cases hx
    refine ⟨_, rfl, f, 43, rfl, rfl, .inr ⟨by decide, by decide⟩, _, rfl, _, _, rfl, rfl, .inl ⟨_, rfl, _, 1000000007, rfl, rfl, (by show (0 : Int) < 1000000007; decide), ⟨_, _, rfl, ?_, ?_⟩, rfl⟩⟩
    · exact Int.emod_nonneg _ (by decide)
    · exact Int.emod_lt_of_pos _ (by decide)
  · rintro σ H1 ⟨⟨f, x2, rfl, f0, f1⟩, rfl⟩ p hp
    refine ⟨_, rfl, a, _, rfl, .inl (Evl.ex_l (Ex.new hp) s), fun c hc => ?_⟩
    have np : p ≠ c := fun z => by rw [← z, upd_same] at hc; cases hc
    refine ⟨_, rfl, by rw [upd_ne np, upd_same], penD c 0 0 0 f, rfl, (by show 5 ≤ 15; decide), ?_⟩
    refine q _ p c ?_ ⟨ns, 0, 0, 0, f, ?_, ?_, by decide, by decide, by decide, by decide, f0, by omega⟩
    · exact ((Ex.new hp).trans (Ex.new hc)).mut hp
    · exact upd_same
    · rw [upd_ne np.symm, upd_same]
theorem rd__law_draw (vs : List V) (H : Hp) (Q : VK) (E0 : XK) (h : sp__law_draw w K vs H Q E0) : vs.length = 2 ∧ t__law_draw P w K { nx := fun _ H' => Q .non H', rt := Q } (start N__law_draw vs) H := by
  obtain ⟨p, c, n, m, rfl, ⟨ns, a, g, k, f, h1, h2, a0, g0, k0, kn, f0, f1⟩, hn, m1, m2, q⟩ := h
  refine ⟨rfl, _, rfl, p, _, rfl, dg_count h1, k, 1, rfl, rfl, _, rfl, p, _, rfl, dp_count h1 _, ?_⟩
  have npc : p ≠ c := ne_of h1 h2 (by intro z; cases z)
  -- what the digits or the fold give
  have fin : ∀ (H2 : Hp) (a g f : Int) (x2 : Option V), But p H H2 → H2 p = some (.dK (penD c a g (k + 1) f)) → 0 ≤ a → 0 ≤ g → 0 ≤ f → f < 2147483587 →
      (tSeq (tIfS (tTest (tOp rGtI (tDGet (tVar 0) (tC (.str "digits"))) (tC (.int 0))))
        (tSeq (tAsg (tOp rModI (tCB rInt1 (tCons (tDGet (tVar 0) (tC (.str "digits"))) tNil)) (tVar 1)) (gName 3))
        (tSeq (sDPut (tVar 0) (tC (.str "digits")) (tOp rFdivI (tDGet (tVar 0) (tC (.str "digits"))) (tVar 1)))
        (tRet (tVar 3))))
        tNext)
        (tSeq (tAsg (tOp rAddI (tOp rAddI (tDGet (tVar 0) (tC (.str "fold"))) (tOp rMulI (tDGet (tVar 0) (tC (.str "count"))) (tC (.int 7919)))) (tC (.int 41))) (gName 4))
        (tRet (tOp rModI (tOp rFdivI (tCB rInt1 (tCons (tOp rModI (tOp rPowI (tVar 4) (tC (.int 17))) (tC (.int 2305843009213693951))) tNil)) (tC (.int 128))) (tVar 1)))))
      { nx := fun _ H' => Q .non H', rt := Q } [some (.ref p), some (.int m), x2, none, none] H2 := by
    intro H2 a g f x2 b2 hp a0 g0 f0 f1
    have hc2 : H2 c = some (.lst (ns.map V.int)) := b2 _ _ npc.symm h2
    refine ⟨_, rfl, p, _, rfl, dg_digits hp, g, 0, rfl, rfl, _, rfl, ?_⟩
    refine ite2 (fun hg => ?_) fun hg => ?_
    · refine ⟨_, rfl, p, _, rfl, dg_digits hp, .inl ⟨g, rfl, _, rfl, g, m, rfl, rfl, by omega, ?_⟩⟩
      refine ⟨_, rfl, p, _, rfl, dg_digits hp, _, rfl, g, m, rfl, rfl, ⟨by omega, by omega⟩, _, rfl, p, _, rfl, dp_digits hp _, _, rfl, ?_⟩
      refine q _ _ (b2.up _) ⟨ns, a, _, k + 1, f, upd_same, by rw [upd_ne npc.symm]; exact hc2, a0, ?_, by omega, by omega, f0, f1⟩ (Int.emod_nonneg _ (by omega)) (Int.emod_lt_of_pos _ (by omega))
      rw [Int.fdiv_eq_ediv_of_nonneg _ (by omega)]
      exact Int.ediv_nonneg g0 (by omega)
    · refine ⟨_, rfl, p, _, rfl, dg_fold hp, _, rfl, p, _, rfl, dg_count hp, k + 1, 7919, rfl, rfl, .inr ⟨by decide, by decide⟩, f, _, rfl, rfl, _, 41, rfl, rfl, ?_⟩
      refine ⟨_, rfl, _, 17, rfl, rfl, ⟨by decide, by decide, by omega⟩, _, 2305843009213693951, rfl, rfl, (by show (0 : Int) < 2305843009213693951; decide), .inl ⟨_, rfl, _, 128, rfl, rfl, ⟨by decide, by decide⟩, _, rfl, _, m, rfl, rfl, by omega, ?_⟩⟩
      exact q _ _ b2 ⟨ns, a, g, k + 1, f, hp, hc2, a0, g0, by omega, by omega, f0, f1⟩ (Int.emod_nonneg _ (by omega)) (Int.emod_lt_of_pos _ (by omega))
  have hc1 : upd H p (.dK (penD c a g (k + 1) f)) c = some (.lst (ns.map V.int)) := by rw [upd_ne npc.symm]; exact h2
  have b1 : But p H (upd H p (.dK (penD c a g (k + 1) f))) := (But.refl p H).up _
  refine ⟨_, rfl, p, _, rfl, dg_digits upd_same, rfl, _, rfl, ?_⟩
  refine ite2 (fun hg => ?_) fun hg => ?_
  · refine ⟨_, rfl, p, _, rfl, dg_at upd_same, _, rfl, p, _, rfl, dg_cells upd_same, _, _, rfl, .inl ⟨_, Evl.sq_of hc1, rfl⟩, a, _, rfl, rfl, _, rfl, ?_⟩
    refine ite2 (fun ha => ?_) fun ha => ?_
    · have ha2 : a < ((ns.map V.int).length : Nat) := of_decide_eq_true ha
      have ea : a = ((a.toNat : Nat) : Int) := by omega
      have lt : a.toNat < ns.length := by
        rw [List.length_map] at ha2
        omega
      have at_ : atI (ns.map V.int) a = some (.int ns[a.toNat]) := at_int a0 (by rw [List.getElem?_map, List.getElem?_eq_getElem lt]; rfl)
      generalize ns[a.toNat] = z at at_
      refine ⟨_, rfl, p, _, rfl, dg_cells upd_same, _, rfl, p, _, rfl, dg_at upd_same, c, _, a, _, rfl, rfl, Evl.sq_of hc1, at_, ?_⟩
      refine ⟨_, rfl, p, _, rfl, dg_at upd_same, a, 1, rfl, rfl, _, rfl, p, _, rfl, dp_at upd_same _, ?_⟩
      refine ⟨_, rfl, 10, 18, rfl, rfl, ⟨by decide, by decide, by decide⟩, z, _, rfl, rfl, _, rfl, ?_⟩
      refine ite2 (fun hz => ?_) fun hz => ?_
      · refine ⟨_, rfl, 10, 18, rfl, rfl, ⟨by decide, by decide, by decide⟩, z, _, rfl, rfl, _, rfl, p, _, rfl, dp_digits upd_same _, ?_⟩
        have hz2 : (10 : Int) ^ (18 : Int).toNat ≤ z := of_decide_eq_true hz
        exact fin _ _ _ _ _ ((b1.up _).up _) upd_same (by omega) (by omega) f0 f1
      · refine ⟨_, rfl, p, _, rfl, dg_fold upd_same, f, 1664525, rfl, rfl, .inr ⟨by decide, by decide⟩, _, rfl, _, z, rfl, rfl, .inl ⟨_, rfl, _, 2147483587, rfl, rfl, (by show (0 : Int) < 2147483587; decide), _, rfl, p, _, rfl, dp_fold upd_same _, ?_⟩⟩
        exact fin _ _ _ _ _ ((b1.up _).up _) upd_same (by omega) g0 (Int.emod_nonneg _ (by decide)) (Int.emod_lt_of_pos _ (by decide))
    · exact fin _ _ _ _ _ b1 upd_same a0 g0 f0 f1
  · exact fin _ _ _ _ _ b1 upd_same a0 g0 f0 f1
theorem rd__law_is (vs : List V) (H : Hp) (Q : VK) (E0 : XK) (h : sp__law_is w K vs H Q E0) : vs.length = 2 ∧ t__law_is P w K { nx := fun _ H' => Q .non H', rt := Q } (start N__law_is vs) H := by
  obtain ⟨x, y, rfl, q⟩ := h
  refine ⟨rfl, _, rfl, y, rfl, ?_⟩
  cases y with
  | true => exact ⟨_, rfl, x, true, rfl, rfl, q⟩
  | false => exact ⟨_, rfl, x, false, rfl, rfl, q⟩
end
theorem ok__law_pen {P : Program} {w : World} {K : PySem.W.Frag} {mg : Str → Option Value} {base : Heap} (E : Ctx w K mg) : DefOk P w K mg base "_law_pen" [("_law_script" : Str)] 1 (sp__law_pen w K) := by
  obtain ⟨fd, F⟩ := E.D__law_pen
  exact ⟨_, fd, fn_mk (t := t__law_pen P w K) F sc__law_pen (rd__law_pen E) (fun cdv A outer s H E0 hr => (pss_cons (ps_set (i := 1) sc__law_pen.nd rfl (Or.inl rfl) pe_int)
    (pss_cons (ps_for PassesOwn.never rfl (pi_list (pv 0)) (pg_name (i := 2) sc__law_pen.nd rfl (Or.inl rfl))
    (pss_one (ps_set (i := 1) sc__law_pen.nd rfl (Or.inl rfl) (pe_op op_mod (pe_callTy call_int1 (by rfl) E.f_int (by decide +kernel) (pa_cons (pe_op op_add (pe_op op_mul (pv 1) pe_int) (pv 2)) pa_nil)) pe_int))))
    (pss_one (ps_ret (pe_disp (pps_cons pe_str (pe_callTy call_list_of (by rfl) E.f_list (by decide +kernel) (pa_cons (pv 0) pa_nil)) (pps_cons pe_str pe_int (pps_cons pe_str pe_int (pps_cons pe_str pe_int (pps_cons pe_str (pv 1) pps_nil))))) (by rfl) (by rfl) (fun z => by cases z) (by decide))))))), (FunD.bindsN F (fun _ _ _ _ _ _ us hl => match us, hl with | [_], _ => rfl)), E.g__law_pen, F.kp⟩
theorem ok__law_draw {P : Program} {w : World} {K : PySem.W.Frag} {mg : Str → Option Value} {base : Heap} (E : Ctx w K mg) : DefOk P w K mg base "_law_draw" [("_law_pen_here" : Str), ("_law_many" : Str)] 1 (sp__law_draw w K) := by
  obtain ⟨fd, F⟩ := E.D__law_draw
  exact ⟨_, fd, fn_mk (t := t__law_draw P w K) F sc__law_draw (rd__law_draw E) (fun cdv A outer s H E0 hr => (pss_cons (ps_dput (hu_of hr) (pv 0) pe_str (pe_op op_add (pe_dget (hu_of hr) (pv 0) pe_str (fun _ _ => rfl)) pe_int) rfl)
    (pss_cons (ps_if (PW.pt (pw_and (pt_cmpR op_eq (pe_dget (hu_of hr) (pv 0) pe_str (fun _ _ => rfl)) pe_int (nomark _)) (pw_and1 (pt_cmpR op_lt (pe_dget (hu_of hr) (pv 0) pe_str (fun _ _ => rfl)) (pe_callB call_len (by rfl) E.f_len (by decide +kernel) (pa_cons (pe_dget (hu_of hr) (pv 0) pe_str (fun _ _ => rfl)) pa_nil)) (nomark _)))))
    (pss_cons (ps_set (i := 2) sc__law_draw.nd rfl (Or.inl rfl) (pe_ix ix_list (pe_dget (hu_of hr) (pv 0) pe_str (fun _ _ => rfl)) (pe_dget (hu_of hr) (pv 0) pe_str (fun _ _ => rfl)) (fun _ _ => rfl)))
    (pss_cons (ps_dput (hu_of hr) (pv 0) pe_str (pe_op op_add (pe_dget (hu_of hr) (pv 0) pe_str (fun _ _ => rfl)) pe_int) rfl)
    (pss_one (ps_if (pt_cmpR op_ge (pv 2) (pe_op op_pow pe_int pe_int) (nomark _))
    (pss_one (ps_dput (hu_of hr) (pv 0) pe_str (pe_op op_sub (pv 2) (pe_op op_pow pe_int pe_int)) rfl))
    (pss_one (ps_dput (hu_of hr) (pv 0) pe_str (pe_op op_mod (pe_callTy call_int1 (by rfl) E.f_int (by decide +kernel) (pa_cons (pe_op op_add (pe_op op_mul (pe_dget (hu_of hr) (pv 0) pe_str (fun _ _ => rfl)) pe_int) (pv 2)) pa_nil)) pe_int) rfl))))))
    pss_nil)
    (pss_cons (ps_if (pt_cmpR op_gt (pe_dget (hu_of hr) (pv 0) pe_str (fun _ _ => rfl)) pe_int (nomark _))
    (pss_cons (ps_set (i := 3) sc__law_draw.nd rfl (Or.inl rfl) (pe_op op_mod (pe_callTy call_int1 (by rfl) E.f_int (by decide +kernel) (pa_cons (pe_dget (hu_of hr) (pv 0) pe_str (fun _ _ => rfl)) pa_nil)) (pv 1)))
    (pss_cons (ps_dput (hu_of hr) (pv 0) pe_str (pe_op op_fdivN (pe_dget (hu_of hr) (pv 0) pe_str (fun _ _ => rfl)) (pv 1)) rfl)
    (pss_one (ps_ret (pv 3)))))
    pss_nil)
    (pss_cons (ps_set (i := 4) sc__law_draw.nd rfl (Or.inl rfl) (pe_op op_add (pe_op op_add (pe_dget (hu_of hr) (pv 0) pe_str (fun _ _ => rfl)) (pe_op op_mul (pe_dget (hu_of hr) (pv 0) pe_str (fun _ _ => rfl)) pe_int)) pe_int))
    (pss_one (ps_ret (pe_op op_mod (pe_op op_fdivN (pe_callTy call_int1 (by rfl) E.f_int (by decide +kernel) (pa_cons (pe_op op_mod (pe_op op_pow (pv 4) pe_int) pe_int) pa_nil)) pe_int) (pv 1))))))))), (FunD.bindsN F (fun _ _ _ _ _ _ us hl => match us, hl with | [_, _], _ => rfl)), E.g__law_draw, F.kp⟩
theorem ok__law_is {P : Program} {w : World} {K : PySem.W.Frag} {mg : Str → Option Value} {base : Heap} (E : Ctx w K mg) : DefOk P w K mg base "_law_is" [("_law_value" : Str), ("_law_due" : Str)] 1 (sp__law_is w K) := by
  obtain ⟨fd, F⟩ := E.D__law_is
  exact ⟨_, fd, fn_mk (t := t__law_is P w K) F sc__law_is (rd__law_is E) (fun cdv A outer s H E0 hr => (pss_one (ps_ret (pe_ifExp (pt_val (pv 1)) (pe_cmpR op_isBl (pv 0) pe_bl (nomark _)) (pe_cmpR op_isBl (pv 0) pe_bl (nomark _)))))), (FunD.bindsN F (fun _ _ _ _ _ _ us hl => match us, hl with | [_, _], _ => rfl)), E.g__law_is, F.kp⟩
section
variable {P : Program} {w : World} {K : PySem.W.Frag} {mg : Str → Option Value} (E : Ctx w K mg)
include E
theorem rd__law_pick (vs : List V) (H : Hp) (Q : VK) (E0 : XK) (h : sp__law_pick w K vs H Q E0) : vs.length = 2 ∧ t__law_pick P w K { nx := fun _ H' => Q .non H', rt := Q } (start N__law_pick vs) H := by
  obtain ⟨p, c, a, n, xs, rfl, pen, hn, s, ne, len, q⟩ := h
  have l0 : 0 < xs.length := List.length_pos_iff.mpr ne
  refine ⟨rfl, _, rfl, _, rfl, _, rfl, _, _, rfl, s.elim (fun z => .inl ⟨_, z, rfl⟩) (fun z => .inr ⟨_, z, rfl⟩), p, c, n, _, rfl, pen, hn, by omega, by omega, fun H1 i b1 p1 i0 i1 => ?_⟩
  have ei : i = ((i.toNat : Nat) : Int) := by omega
  have lt : i.toNat < xs.length := by omega
  have at_ : atI xs i = some xs[i.toNat] := at_int i0 (List.getElem?_eq_getElem lt)
  have k := q H1 _ b1 p1 (List.getElem_mem lt)
  rcases s with s | s
  · exact .inl ⟨a, xs, i, _, rfl, rfl, (pen.sq b1).l _ _ s, at_, k⟩
  · exact .inr (.inl ⟨a, xs, i, _, rfl, rfl, (pen.sq b1).t _ _ s, at_, k⟩)
end
theorem ok__law_pick {P : Program} {w : World} {K : PySem.W.Frag} {mg : Str → Option Value} {base : Heap} (E : Ctx w K mg) : DefOk P w K mg base "_law_pick" [("_law_pen_here" : Str), ("_law_some" : Str)] 2 (sp__law_pick w K) := by
  obtain ⟨fd, F⟩ := E.D__law_pick
  exact ⟨_, fd, fn_mk (t := t__law_pick P w K) F sc__law_pick (rd__law_pick E) (fun cdv A outer s H E0 hr => (pss_one (ps_ret (pe_ix ix_seq (pv 1) (pe_fn (ok__law_draw E) (hr.mono (by decide)) (by rfl) (pa_cons (pv 0) (pa_cons (pe_callB call_len (by rfl) E.f_len (by decide +kernel) (pa_cons (pv 1) pa_nil)) pa_nil))) (fun _ _ => rfl))))), (FunD.bindsN F (fun _ _ _ _ _ _ us hl => match us, hl with | [_, _], _ => rfl)), E.g__law_pick, F.kp⟩
section
variable {P : Program} {w : World} {K : PySem.W.Frag} {mg : Str → Option Value} (E : Ctx w K mg)
include E
theorem rd__law_listed (vs : List V) (H : Hp) (Q : VK) (E0 : XK) (h : sp__law_listed w K vs H Q E0) : vs.length = 2 ∧ t__law_listed P w K { nx := fun _ H' => Q .non H', rt := Q } (start N__law_listed vs) H := by
  obtain ⟨p, c, a, n, xs, rfl, pen, hn, s, q⟩ := h
  refine ⟨rfl, _, rfl, _, rfl, a, xs, rfl, s, fun b H1 e1 s1 => ⟨_, rfl, a, xs, rfl, s.ex e1, fun l hl => ⟨(by show 2 ≤ sizeLine; decide), fun L hL => ?_⟩⟩⟩
  have e2 : Ex H1 (upd H1 l (.lst xs)) := Ex.new hl
  have e3 : Ex (upd H1 l (.lst xs)) (upd (upd H1 l (.lst xs)) L (.lst [.ref b, .ref l])) := Ex.new hL
  refine ⟨p, c, L, n, _, rfl, pen.ex ((e1.trans e2).trans e3), hn, .inl (Evl.sq_of upd_same), by simp, by show 2 < 1000000; decide, fun H' x b4 p4 hx => ?_⟩
  have sq := (pen.ex ((e1.trans e2).trans e3)).sq (K := K) b4
  have bb : But p H H' := (But.of ((e1.trans e2).trans e3)).trans b4
  rcases List.mem_cons.mp hx with rfl | hx
  · exact q H' b bb p4 (.inl (sq.t _ _ (Evl.ex_t (e2.trans e3) s1)))
  · rw [List.mem_singleton.mp hx]
    exact q H' l bb p4 (.inr ⟨Evl.fresh_back e1 hl, ((pen.ex ((e1.trans e2).trans e3)).kp (K := K) b4).l _ _ (e3 _ _ upd_same)⟩)
end
theorem ok__law_listed {P : Program} {w : World} {K : PySem.W.Frag} {mg : Str → Option Value} {base : Heap} (E : Ctx w K mg) : DefOk P w K mg base "_law_listed" [("_law_pen_here" : Str), ("_law_row" : Str)] 3 (sp__law_listed w K) := by
  obtain ⟨fd, F⟩ := E.D__law_listed
  exact ⟨_, fd, fn_mk (t := t__law_listed P w K) F sc__law_listed (rd__law_listed E) (fun cdv A outer s H E0 hr => (pss_one (ps_ret (pe_fn (ok__law_pick E) (hr.mono (by decide)) (by rfl) (pa_cons (pv 0) (pa_cons (pe_lst (pa_cons (pe_callTy call_tuple_q (by rfl) E.f_tuple (by decide +kernel) (pa_cons (pv 1) pa_nil)) (pa_cons (pe_callTy call_list_of (by rfl) E.f_list (by decide +kernel) (pa_cons (pv 1) pa_nil)) pa_nil))) pa_nil)))))), (FunD.bindsN F (fun _ _ _ _ _ _ us hl => match us, hl with | [_, _], _ => rfl)), E.g__law_listed, F.kp⟩
end K28

set_option Elab.async false
set_option linter.all false
set_option maxRecDepth 100000
set_option maxHeartbeats 4000000
namespace K28
open PySem PySem.Spec PyProof.Rows L2
open Evl (Ex)

/-! ## the law's own books -/
def Cd.OkB (b : Int) : Cd → Prop
  | .rs m r => 1 ≤ m ∧ m ≤ 3 ∧ 0 ≤ r ∧ r < m
  | .le k | .mo k | .eq k | .ne k => -b ≤ k ∧ k ≤ b
theorem Cd.OkB.mono {b b' : Int} (h : b ≤ b') {c : Cd} (o : c.OkB b) : c.OkB b' := by
  cases c with
  | rs m r => exact o
  | le k | mo k | eq k | ne k =>
    have z : -b ≤ k ∧ k ≤ b := o
    show -b' ≤ k ∧ k ≤ b'
    omega
theorem Cd.OkB.ok {c : Cd} (o : c.OkB 9) : c.Ok := by
  cases c with
  | rs m r => exact o
  | le k | mo k | eq k | ne k => exact o
def CdsB (b : Int) (l : Nat) (cs : List Cd) : Prop := cs.length ≤ l ∧ ∀ c ∈ cs, c.OkB b
theorem CdsB.mono {b b' : Int} {l l' : Nat} (h : b ≤ b') (hl : l ≤ l') {cs : List Cd} (o : CdsB b l cs) : CdsB b' l' cs := ⟨Nat.le_trans o.1 hl, fun c hc => (o.2 c hc).mono h⟩
structure Mv.OkB (n : Nat) (b : Int) (l : Nat) (m : Mv) : Prop where
  p : m.place < n
  c : CdsB b l m.cds
  s0 : -3 ≤ m.shift
  s1 : m.shift ≤ 3
  t : m.target < n
structure Gw.OkB (n : Nat) (b : Int) (l : Nat) (g : Gw) : Prop where
  p : g.place < n
  c : CdsB b l g.cds
/-- n0 places at the most, m0 moves, g0 goals, conditions to b, l of them -/
structure Bk.OkB (n0 m0 g0 : Nat) (b : Int) (l : Nat) (B : Bk) : Prop where
  n1 : 1 ≤ B.sides.length
  n2 : B.sides.length ≤ n0
  s : ∀ x ∈ B.sides, x = 0 ∨ x = 1
  m1 : B.moves.length ≤ m0
  m2 : B.moves ≠ []
  g1 : B.goals.length ≤ g0
  m : ∀ m ∈ B.moves, m.OkB B.sides.length b l
  g : ∀ g ∈ B.goals, g.OkB B.sides.length b l
/-- the law's book's dict -/
def bookD (s m g : Addr) : List (Key × V) := [(.inr "sides", .ref s), (.inr "moves", .ref m), (.inr "goals", .ref g)]
structure LwAt (K : PySem.W.Frag) (H : Hp) (a s m g : Addr) (ms gs : List V) (B : Bk) : Prop where
  d : H a = some (.dK (bookD s m g))
  s : H s = some (.lst (B.sides.map V.int))
  m : H m = some (.lst ms)
  g : H g = some (.lst gs)
  am : DtAll K H ms (B.moves.map Mv.d)
  ag : DtAll K H gs (B.goals.map Gw.d)
def LwB (K : PySem.W.Frag) (H : Hp) (v : V) (B : Bk) : Prop := ∃ a s m g ms gs, v = .ref a ∧ LwAt K H a s m g ms gs B
section
variable {K : PySem.W.Frag} {H H' : Hp}
theorem LwAt.but {p c : Addr} {n : Nat} (pen : Pen H p c n) (e : But p H H') {a s m g : Addr} {ms gs : List V} {B : Bk} (h : LwAt K H a s m g ms gs B) : LwAt K H' a s m g ms gs B := by
  have kp := pen.kp (K := K) e
  obtain ⟨ns, x, y, z, f, h1, _⟩ := pen
  have na : a ≠ p := ne_of h.d h1 (by intro z; cases z)
  exact ⟨e _ _ na h.d, kp.l _ _ h.s, kp.l _ _ h.m, kp.l _ _ h.g, h.am.tk kp.t, h.ag.tk kp.t⟩
theorem LwB.but {p c : Addr} {n : Nat} (pen : Pen H p c n) (e : But p H H') {v : V} {B : Bk} (h : LwB K H v B) : LwB K H' v B := by
  obtain ⟨a, s, m, g, ms, gs, e1, h⟩ := h
  exact ⟨a, s, m, g, ms, gs, e1, h.but pen e⟩
theorem LwAt.ex (e : Ex H H') {a s m g : Addr} {ms gs : List V} {B : Bk} (h : LwAt K H a s m g ms gs B) : LwAt K H' a s m g ms gs B :=
  ⟨e _ _ h.d, e _ _ h.s, e _ _ h.m, e _ _ h.g, h.am.tk (.ex e), h.ag.tk (.ex e)⟩
theorem LwB.ex (e : Ex H H') {v : V} {B : Bk} (h : LwB K H v B) : LwB K H' v B := by
  obtain ⟨a, s, m, g, ms, gs, e1, h⟩ := h
  exact ⟨a, s, m, g, ms, gs, e1, h.ex e⟩
theorem LwAt.gs {a s m g : Addr} {ms gs : List V} {B : Bk} (h : LwAt K H a s m g ms gs B) : DGet H a (.str "sides") (some (.ref s)) := DGet.k (k := .inr "sides") h.d
theorem LwAt.gm {a s m g : Addr} {ms gs : List V} {B : Bk} (h : LwAt K H a s m g ms gs B) : DGet H a (.str "moves") (some (.ref m)) := DGet.k (k := .inr "moves") h.d
theorem LwAt.gg {a s m g : Addr} {ms gs : List V} {B : Bk} (h : LwAt K H a s m g ms gs B) : DGet H a (.str "goals") (some (.ref g)) := DGet.k (k := .inr "goals") h.d
/-- a new object elsewhere, or one that the start heap does not know -/
theorem But.mut {p l : Addr} {o : HO} (e : But p H H') (h : H l = none) : But p H (upd H' l o) := fun a u n q => by
  rw [upd_ne (ne_of_none q h)]
  exact e a u n q
end
theorem al_exists {α : Type} {R : V → α → Prop} : ∀ {xs : List V}, (∀ (i : Nat) (v : V), xs[i]? = some v → ∃ y, R v y) → ∃ ys, Al R xs ys
  | [], _ => ⟨[], .nil⟩
  | x :: xs, h => by
    obtain ⟨y, hy⟩ := h 0 x rfl
    obtain ⟨ys, hys⟩ := al_exists (xs := xs) fun i v q => h (i + 1) v q
    exact ⟨y :: ys, .cons hy hys⟩
theorem Al.dt {K : PySem.W.Frag} {H : Hp} {α : Type} {g : α → PyData} {C : α → Prop} {xs : List V} {ys : List α} (h : Al (fun v y => Dt K H v (g y) ∧ C y) xs ys) : DtAll K H xs (ys.map g) ∧ ∀ y ∈ ys, C y := by
  refine ⟨⟨by rw [h.1, List.length_map], fun i v d a b => ?_⟩, fun y hy => ?_⟩
  · rw [List.getElem?_map] at b
    cases q : ys[i]? with
    | none => rw [q] at b; cases b
    | some y =>
      rw [q] at b
      cases b
      exact (h.2 i v y a q).1
  · obtain ⟨i, hi, rfl⟩ := List.getElem_of_mem hy
    obtain ⟨v, _, q⟩ := h.at (List.getElem?_eq_getElem hi)
    exact q.2
theorem word_cd {z : Str} (hz : z ∈ (["least", "most", "is", "not"] : List Str)) (k b : Int) (h : -b ≤ k ∧ k ≤ b) : ∃ c : Cd, c.ds = [.str z, .int k] ∧ c.OkB b := by
  simp only [List.mem_cons, List.not_mem_nil, or_false] at hz
  rcases hz with rfl | rfl | rfl | rfl
  · exact ⟨.le k, rfl, h⟩
  · exact ⟨.mo k, rfl, h⟩
  · exact ⟨.eq k, rfl, h⟩
  · exact ⟨.ne k, rfl, h⟩
def sp__law_some_condition (w : World) (K : PySem.W.Frag) : Sp := fun vs H Q _ => ∃ (p c : Addr) (n : Nat) (wd m : Int), vs = [.ref p, .int wd, .int m] ∧ Pen H p c n ∧ n ≤ 100000000 ∧ 0 ≤ wd ∧ wd ≤ 3 ∧ 1 ≤ m ∧ m ≤ 3 ∧
  ∀ H' v cd, But p H H' → Pen H' p c (n + 2) → Dt K H' v (Cd.d cd) → cd.OkB 3 → Q v H'
def sp__law_some_conditions (w : World) (K : PySem.W.Frag) : Sp := fun vs H Q _ => ∃ (p c : Addr) (n : Nat) (wd m : Int), vs = [.ref p, .int wd, .int m] ∧ Pen H p c n ∧ n ≤ 10000000 ∧ 0 ≤ wd ∧ wd ≤ 3 ∧ 1 ≤ m ∧ m ≤ 3 ∧
  ∀ H' v cs, But p H H' → Pen H' p c (n + 5) → Dt K H' v (cdsD cs) → CdsB 3 2 cs → Q v H'
def N__law_some_condition : List Str := ["_law_pen_here", "_law_wide", "_law_modulus", "_law_word"]
theorem sc__law_some_condition : FnScope N__law_some_condition ["_law_pen_here", "_law_wide", "_law_modulus"] (defScope s__law_some_condition) := ⟨rfl, rfl, rfl, by decide +kernel, rfl, by decide +kernel, by decide +kernel⟩
/-- names: 0 _law_pen_here 1 _law_wide 2 _law_modulus 3 _law_word -/
def t__law_some_condition (P : Program) (w : World) (K : PySem.W.Frag) : TS :=
    (tSeq (tAsg (tFn (sp__law_pick w K) (tCons (tVar 0) (tCons (tLst (tCons (tC (.str "least")) (tCons (tC (.str "most")) (tCons (tC (.str "is")) (tCons (tC (.str "not")) (tCons (tC (.str "rest")) (tCons (tC (.str "least")) (tCons (tC (.str "most")) tNil)))))))) tNil))) (gName 3))
    (tSeq (tIfS (tAnd (tTest (tOp rEq (tVar 3) (tC (.str "rest")))) (tTest (tOp rGtI (tVar 2) (tC (.int 1)))))
    (tRet (tTup (tCons (tC (.str "rest")) (tCons (tVar 2) (tCons (tFn (sp__law_draw w K) (tCons (tVar 0) (tCons (tVar 2) tNil))) tNil)))))
    tNext)
    (tRet (tTup (tCons (tIf (tTest (tOp rNe (tVar 3) (tC (.str "rest")))) (tVar 3) (tC (.str "least"))) (tCons (tOp rSubI (tFn (sp__law_draw w K) (tCons (tVar 0) (tCons (tOp rAddI (tOp rMulI (tC (.int 2)) (tVar 1)) (tC (.int 1))) tNil))) (tVar 1)) tNil))))))
def N__law_some_conditions : List Str := ["_law_pen_here", "_law_wide", "_law_modulus", "_law_many", "_law_k"]
theorem sc__law_some_conditions : FnScope N__law_some_conditions ["_law_pen_here", "_law_wide", "_law_modulus"] (defScope s__law_some_conditions) := ⟨rfl, rfl, rfl, by decide +kernel, rfl, by decide +kernel, by decide +kernel⟩
/-- names: 0 _law_pen_here* 1 _law_wide* 2 _law_modulus* 3 _law_many 4 _law_k -/
def t__law_some_conditions (P : Program) (w : World) (K : PySem.W.Frag) : TS :=
    (tSeq (tAsg (tFn (sp__law_pick w K) (tCons (tVar 0) (tCons (tLst (tCons (tC (.int 0)) (tCons (tC (.int 0)) (tCons (tC (.int 0)) (tCons (tC (.int 1)) (tCons (tC (.int 1)) (tCons (tC (.int 2)) tNil))))))) tNil))) (gName 3))
    (tRet (tCB (rTupQ K) (tCons (tLc (iRng1 (tCons (tVar 3) tNil)) (gName 4) tYes (tFn (sp__law_some_condition w K) (tCons (tVar 0) (tCons (tVar 1) (tCons (tVar 2) tNil)))) [4]) tNil))))
section
variable {P : Program} {w : World} {K : PySem.W.Frag} {mg : Str → Option Value} (E : Ctx w K mg)
include E
theorem rd__law_some_condition (vs : List V) (H : Hp) (Q : VK) (E0 : XK) (h : sp__law_some_condition w K vs H Q E0) : vs.length = 3 ∧ t__law_some_condition P w K { nx := fun _ H' => Q .non H', rt := Q } (start N__law_some_condition vs) H := by
  obtain ⟨p, c, n, wd, m, rfl, pen, hn, w0, w1, m0, m1, q⟩ := h
  refine ⟨rfl, _, rfl, (by show 7 ≤ sizeLine; decide), fun L hL => ?_⟩
  refine ⟨p, c, L, n, _, rfl, pen.ex (Ex.new hL), by omega, .inl (Evl.sq_of upd_same), by simp, by show 7 < 1000000; decide, fun H1 x b1 p1 hx => ?_⟩
  have bb : But p H H1 := (But.of (Ex.new hL)).trans b1
  have hz : ∃ z : Str, x = .str z ∧ (z = "rest" ∨ (z ≠ "rest" ∧ z ∈ (["least", "most", "is", "not"] : List Str))) := by
    simp only [List.mem_cons, List.not_mem_nil, or_false] at hx
    rcases hx with rfl | rfl | rfl | rfl | rfl | rfl | rfl
    · exact ⟨_, rfl, .inr ⟨by decide +kernel, by decide +kernel⟩⟩
    · exact ⟨_, rfl, .inr ⟨by decide +kernel, by decide +kernel⟩⟩
    · exact ⟨_, rfl, .inr ⟨by decide +kernel, by decide +kernel⟩⟩
    · exact ⟨_, rfl, .inr ⟨by decide +kernel, by decide +kernel⟩⟩
    · exact ⟨_, rfl, .inl rfl⟩
    · exact ⟨_, rfl, .inr ⟨by decide +kernel, by decide +kernel⟩⟩
    · exact ⟨_, rfl, .inr ⟨by decide +kernel, by decide +kernel⟩⟩
  obtain ⟨z, rfl, alt⟩ := hz
  -- the last return, with the word
  have last : ∀ z : Str, z ∈ (["least", "most", "is", "not"] : List Str) → ∀ i, 0 ≤ i → i < 2 * wd + 1 → ∀ H2, But p H H2 → Pen H2 p c (n + 2) → ∀ T, H2 T = none → Q (.ref T) (upd H2 T (.tup [.str z, .int (i - wd)])) := by
    intro z hz i i0 i1 H2 b2 p2 T hT
    obtain ⟨cd, e, ok⟩ := word_cd hz (i - wd) 3 (by omega)
    refine q _ _ cd (b2.trans (.of (Ex.new hT))) (p2.ex (Ex.new hT)) ?_ ok
    unfold Cd.d
    rw [e]
    exact Dt.mk (Evl.st_of upd_same) (.cons (.str _) (.one (.int _)))
  refine ⟨_, rfl, rfl, _, rfl, ?_⟩
  rw [eqS]
  rcases alt with rfl | ⟨nz, hz⟩
  · refine ⟨_, rfl, m, 1, rfl, rfl, _, rfl, ?_⟩
    refine ite2 (fun hm => ?_) fun hm => ?_
    · have hm2 : 1 < m := of_decide_eq_true hm
      refine ⟨_, rfl, _, rfl, _, rfl, p, c, n + 1, m, rfl, p1, by omega, m0, by omega, fun H2 i b2 p2 i0 i1 => ⟨(by show 3 ≤ sizeLine; decide), fun T hT => ?_⟩⟩
      refine q _ _ (.rs m i) ((bb.trans b2).trans (.of (Ex.new hT))) (p2.ex (Ex.new hT)) ?_ ⟨m0, m1, i0, i1⟩
      exact Dt.mk (Evl.st_of upd_same) (.cons (.str _) (.cons (.int _) (.one (.int _))))
    · refine ⟨_, rfl, rfl, _, rfl, ?_⟩
      refine ⟨_, rfl, _, rfl, 2, wd, rfl, rfl, .inl ⟨by decide, by decide⟩, _, 1, rfl, rfl, p, c, n + 1, _, rfl, p1, by omega, by omega, by omega, fun H2 i b2 p2 i0 i1 => ⟨_, rfl, i, wd, rfl, rfl, (by show 2 ≤ sizeLine; decide), fun T hT => last _ (by decide +kernel) i i0 i1 H2 (bb.trans b2) p2 T hT⟩⟩
  · rw [decide_eq_false nz]
    refine ⟨_, rfl, rfl, _, rfl, ?_⟩
    rw [eqS, decide_eq_false nz]
    exact ⟨_, rfl, _, rfl, _, rfl, 2, wd, rfl, rfl, .inl ⟨by decide, by decide⟩, _, 1, rfl, rfl, p, c, n + 1, _, rfl, p1, by omega, by omega, by omega, fun H2 i b2 p2 i0 i1 => ⟨_, rfl, i, wd, rfl, rfl, (by show 2 ≤ sizeLine; decide), fun T hT => last z hz i i0 i1 H2 (bb.trans b2) p2 T hT⟩⟩
end
theorem ok__law_some_condition {P : Program} {w : World} {K : PySem.W.Frag} {mg : Str → Option Value} {base : Heap} (E : Ctx w K mg) : DefOk P w K mg base "_law_some_condition" [("_law_pen_here" : Str), ("_law_wide" : Str), ("_law_modulus" : Str)] 3 (sp__law_some_condition w K) := by
  obtain ⟨fd, F⟩ := E.D__law_some_condition
  exact ⟨_, fd, fn_mk (t := t__law_some_condition P w K) F sc__law_some_condition (rd__law_some_condition E) (fun cdv A outer s H E0 hr => (pss_cons (ps_set (i := 3) sc__law_some_condition.nd rfl (Or.inl rfl) (pe_fn (ok__law_pick E) (hr.mono (by decide)) (by rfl) (pa_cons (pv 0) (pa_cons (pe_lst (pa_cons pe_str (pa_cons pe_str (pa_cons pe_str (pa_cons pe_str (pa_cons pe_str (pa_cons pe_str (pa_cons pe_str pa_nil)))))))) pa_nil))))
    (pss_cons (ps_if (PW.pt (pw_and (pt_cmpR op_eq (pv 3) pe_str (nomark _)) (pw_and1 (pt_cmpR op_gt (pv 2) pe_int (nomark _)))))
    (pss_one (ps_ret (pe_tup (pa_cons pe_str (pa_cons (pv 2) (pa_cons (pe_fn (ok__law_draw E) (hr.mono (by decide)) (by rfl) (pa_cons (pv 0) (pa_cons (pv 2) pa_nil))) pa_nil))))))
    pss_nil)
    (pss_one (ps_ret (pe_tup (pa_cons (pe_ifExp (pt_cmpR op_ne (pv 3) pe_str (nomark _)) (pv 3) pe_str) (pa_cons (pe_op op_sub (pe_fn (ok__law_draw E) (hr.mono (by decide)) (by rfl) (pa_cons (pv 0) (pa_cons (pe_op op_add (pe_op op_mul pe_int (pv 1)) pe_int) pa_nil))) (pv 1)) pa_nil)))))))), (FunD.bindsN F (fun _ _ _ _ _ _ us hl => match us, hl with | [_, _, _], _ => rfl)), E.g__law_some_condition, F.kp⟩
section
variable {P : Program} {w : World} {K : PySem.W.Frag} {mg : Str → Option Value} (E : Ctx w K mg)
include E
theorem rd__law_some_conditions (vs : List V) (H : Hp) (Q : VK) (E0 : XK) (h : sp__law_some_conditions w K vs H Q E0) : vs.length = 3 ∧ t__law_some_conditions P w K { nx := fun _ H' => Q .non H', rt := Q } (start N__law_some_conditions vs) H := by
  obtain ⟨p, c, n, wd, m, rfl, pen, hn, w0, w1, m0, m1, q⟩ := h
  refine ⟨rfl, _, rfl, (by show 6 ≤ sizeLine; decide), fun L hL => ?_⟩
  refine ⟨p, c, L, n, _, rfl, pen.ex (Ex.new hL), by omega, .inl (Evl.sq_of upd_same), by simp, by show 6 < 1000000; decide, fun H1 x b1 p1 hx => ?_⟩
  have bb : But p H H1 := (But.of (Ex.new hL)).trans b1
  have hz : ∃ k : Nat, x = .int k ∧ k ≤ 2 := by
    simp only [List.mem_cons, List.not_mem_nil, or_false] at hx
    rcases hx with rfl | rfl | rfl | rfl | rfl | rfl
    · exact ⟨0, rfl, by decide⟩
    · exact ⟨0, rfl, by decide⟩
    · exact ⟨0, rfl, by decide⟩
    · exact ⟨1, rfl, by decide⟩
    · exact ⟨1, rfl, by decide⟩
    · exact ⟨2, rfl, by decide⟩
  obtain ⟨k, rfl, hk⟩ := hz
  refine ⟨_, rfl, _, rfl, by omega, by omega, ?_⟩
  rw [Int.toNat_natCast]
  intro D hD
  have ncD : c ≠ D := fun z => p1.cn (by rw [z]; exact hD)
  refine lc_map (· = p) (fun a z => by rw [z]; exact p1.pn) hD (walk_range (lo := 0) (n := k)) (by omega) (fun i v H' => ∃ cd : Cd, Dt K H' v cd.d ∧ cd.OkB 3) (fun i H' => Pen H' p c (n + 1 + 2 * i)) (fun _ _ _ _ => trivial) (p1.ex (Ex.new hD)) ?_ ?_ ?_ ?_ ?_
  · exact fun i v H' zs hl e ⟨cd, q1, q2⟩ => ⟨cd, q1.tk (.lst hl), q2⟩
  · exact fun i H' zs hl e pn => pn.lst hl ncD
  · exact fun i v H' H'' j hl e e2 pn _ ⟨cd, q1, q2⟩ => ⟨cd, q1.tk (pn.kp e2.but).t, q2⟩
  · rintro i y H2 H2' kk hi hl e pn ⟨rfl, hy⟩ k1
    exact ⟨rfl, _, rfl, _, rfl, _, rfl, p, c, n + 1 + 2 * i, wd, m, rfl, pn, by omega, w0, w1, m0, m1, fun H3 v cd b3 p3 dt ok => k1 v H3 b3.frm ⟨cd, dt, ok⟩ (p3.mono (by omega))⟩
  · intro acc H2 e hl len z pn
    obtain ⟨cs, al⟩ := al_exists (R := fun v (y : Cd) => Dt K H2 v y.d ∧ y.OkB 3) z
    obtain ⟨dt, ok⟩ := al.dt
    have lc : cs.length = k := by rw [← al.1]; exact len
    refine ⟨D, acc, rfl, .inl (Evl.sq_of hl), fun T H3 e3 s3 => q H3 _ cs ((bb.trans e.but).trans (.of e3)) ((pn.ex e3).mono (by omega)) (Dt.mk s3 (dt.tk (.ex e3))) ⟨by omega, ok⟩⟩
end
theorem ok__law_some_conditions {P : Program} {w : World} {K : PySem.W.Frag} {mg : Str → Option Value} {base : Heap} (E : Ctx w K mg) : DefOk P w K mg base "_law_some_conditions" [("_law_pen_here" : Str), ("_law_wide" : Str), ("_law_modulus" : Str)] 4 (sp__law_some_conditions w K) := by
  obtain ⟨fd, F⟩ := E.D__law_some_conditions
  exact ⟨_, fd, fn_mk (t := t__law_some_conditions P w K) F sc__law_some_conditions (rd__law_some_conditions E) (fun cdv A outer s H E0 hr => (pss_cons (ps_set (i := 3) sc__law_some_conditions.nd rfl (Or.inl rfl) (pe_fn (ok__law_pick E) (hr.mono (by decide)) (by rfl) (pa_cons (pv 0) (pa_cons (pe_lst (pa_cons pe_int (pa_cons pe_int (pa_cons pe_int (pa_cons pe_int (pa_cons pe_int (pa_cons pe_int pa_nil))))))) pa_nil))))
    (pss_one (ps_ret (pe_callTy call_tuple_q (by rfl) E.f_tuple (by decide +kernel) (pa_cons (pe_lc (own := [("_law_k", 4)]) (wi := (iRng1 (tCons (tVar 3) tNil))) (g := (gName 4)) (tt := tYes) (te := (tFn (sp__law_some_condition w K) (tCons (tVar 0) (tCons (tVar 1) (tCons (tVar 2) tNil))))) rfl sc__law_some_conditions.nd (pi_range1 (by rfl) E.f_range (pa_cons (pv 3) pa_nil)) (blkOk_by (own := [("_law_k", 4)]) (N := N__law_some_conditions) (sc := defScope s__law_some_conditions) (by decide +kernel)) (fun _ _ _ _ _ => (pg_name (i := 4) sc__law_some_conditions.nd rfl (Or.inl rfl))) (fun _ _ _ _ _ => pts_nil) (fun _ _ _ _ _ => (pe_fn (ok__law_some_condition E) (hr.mono (by decide)) (by rfl) (pa_cons (pv 0) (pa_cons (pv 1) (pa_cons (pv 2) pa_nil)))))) pa_nil)))))), (FunD.bindsN F (fun _ _ _ _ _ _ us hl => match us, hl with | [_, _, _], _ => rfl)), E.g__law_some_conditions, F.kp⟩
end K28

set_option Elab.async false
set_option linter.all false
set_option maxRecDepth 100000
set_option maxHeartbeats 4000000
namespace K28
open PySem PySem.Spec PyProof.Rows L2
open Evl (Ex)

def sp__law_some_book (w : World) (K : PySem.W.Frag) : Sp := fun vs H Q _ => ∃ (p c : Addr) (n : Nat), vs = [.ref p] ∧ Pen H p c n ∧ n ≤ 1000000 ∧ ∀ H' v B, But p H H' → Pen H' p c (n + 1000) → LwB K H' v B → B.OkB 4 13 2 3 3 → Q v H'
def N__law_some_book : List Str := ["_law_pen_here", "_law_places", "_law_wide", "_law_modulus", "_law_shifts", "_law_sides", "_law_place", "_law_moves", "_law_goals", "_law_lap", "_law_conditions"]
theorem sc__law_some_book : FnScope N__law_some_book ["_law_pen_here"] (defScope s__law_some_book) := ⟨rfl, rfl, rfl, by decide +kernel, rfl, by decide +kernel, by decide +kernel⟩
/-- names: 0 _law_pen_here* 1 _law_places 2 _law_wide 3 _law_modulus 4 _law_shifts 5 _law_sides 6 _law_place 7 _law_moves 8 _law_goals 9 _law_lap 10 _law_conditions -/
def t__law_some_book (P : Program) (w : World) (K : PySem.W.Frag) : TS :=
    (tSeq (tPar 1 2 (tCons (tOp rAddI (tC (.int 1)) (tFn (sp__law_draw w K) (tCons (tVar 0) (tCons (tC (.int 4)) tNil)))) (tCons (tFn (sp__law_draw w K) (tCons (tVar 0) (tCons (tC (.int 4)) tNil))) tNil)))
    (tSeq (tAsg (tFn (sp__law_pick w K) (tCons (tVar 0) (tCons (tLst (tCons (tC (.int 1)) (tCons (tC (.int 1)) (tCons (tC (.int 1)) (tCons (tC (.int 2)) (tCons (tIf (tTest (tOp rLtI (tVar 1) (tC (.int 4)))) (tC (.int 3)) (tC (.int 2))) tNil)))))) tNil))) (gName 3))
    (tSeq (tAsg (tFn (sp__law_pick w K) (tCons (tVar 0) (tCons (tLst (tCons (tLst (tCons (tUn rNegI (tC (.int 1))) (tCons (tC (.int 0)) (tCons (tC (.int 1)) tNil)))) (tCons (tLst (tCons (tUn rNegI (tC (.int 1))) (tCons (tC (.int 1)) (tCons (tUn rNegI (tC (.int 1))) tNil)))) (tCons (tLst (tCons (tUn rNegI (tC (.int 1))) (tCons (tC (.int 1)) (tCons (tC (.int 0)) (tCons (tUn rNegI (tC (.int 1))) tNil))))) (tCons (tIf (tTest (tOp rLtI (tVar 1) (tC (.int 3)))) (tLst (tCons (tUn rNegI (tC (.int 2))) (tCons (tC (.int 1)) (tCons (tUn rNegI (tC (.int 1))) tNil)))) (tLst (tCons (tUn rNegI (tC (.int 1))) (tCons (tC (.int 1)) tNil)))) tNil))))) tNil))) (gName 4))
    (tSeq (tAsg (tLc (iRng1 (tCons (tVar 1) tNil)) (gName 6) tYes (tFn (sp__law_draw w K) (tCons (tVar 0) (tCons (tC (.int 2)) tNil))) [6]) (gName 5))
    (tSeq (tPar 7 8 (tCons (tLst tNil) (tCons (tLst tNil) tNil)))
    (tSeq (tFor (iRng1 (tCons (tOp rAddI (tVar 1) (tFn (sp__law_draw w K) (tCons (tVar 0) (tCons (tOp rAddI (tOp rMulI (tC (.int 2)) (tVar 1)) (tC (.int 2))) tNil)))) tNil)) (gName 9)
    (tSeq (tAsg (tIf (tTest (tOp rLtI (tVar 9) (tVar 1))) (tVar 9) (tFn (sp__law_draw w K) (tCons (tVar 0) (tCons (tVar 1) tNil)))) (gName 6))
    (tSeq (tAsg (tIf (tTest (tOp rEq (tFn (sp__law_draw w K) (tCons (tVar 0) (tCons (tC (.int 2)) tNil))) (tC (.int 0)))) (tFn (sp__law_some_conditions w K) (tCons (tVar 0) (tCons (tVar 2) (tCons (tVar 3) tNil)))) (tTup tNil)) (gName 10))
    (tDrop (tBM K "list" rAppend (tVar 7) (tCons (tTup (tCons (tVar 6) (tCons (tVar 10) (tCons (tFn (sp__law_pick w K) (tCons (tVar 0) (tCons (tVar 4) tNil))) (tCons (tFn (sp__law_draw w K) (tCons (tVar 0) (tCons (tVar 1) tNil))) tNil))))) tNil))))))
    (tSeq (tFor (iRng1 (tCons (tFn (sp__law_pick w K) (tCons (tVar 0) (tCons (tLst (tCons (tC (.int 0)) (tCons (tC (.int 1)) (tCons (tC (.int 1)) (tCons (tC (.int 2)) tNil))))) tNil))) tNil)) (gName 9)
    (tSeq (tAsg (tFn (sp__law_draw w K) (tCons (tVar 0) (tCons (tVar 1) tNil))) (gName 6))
    (tDrop (tBM K "list" rAppend (tVar 8) (tCons (tTup (tCons (tVar 6) (tCons (tOp (rCatQ K) (tFn (sp__law_some_conditions w K) (tCons (tVar 0) (tCons (tVar 2) (tCons (tVar 3) tNil)))) (tFn (sp__law_pick w K) (tCons (tVar 0) (tCons (tLst (tCons (tTup tNil) (tCons (tTup (tCons (tTup (tCons (tC (.str "is")) (tCons (tC (.int 0)) tNil))) tNil)) tNil))) tNil)))) tNil))) tNil)))))
    (tRet (tDisp [((tC (.str "sides")), (tVar 5)), ((tC (.str "moves")), (tVar 7)), ((tC (.str "goals")), (tVar 8))])))))))))
def t__law_some_book_2 (P : Program) (w : World) (K : PySem.W.Frag) : TS :=
    (tSeq (tAsg (tFn (sp__law_pick w K) (tCons (tVar 0) (tCons (tLst (tCons (tLst (tCons (tUn rNegI (tC (.int 1))) (tCons (tC (.int 0)) (tCons (tC (.int 1)) tNil)))) (tCons (tLst (tCons (tUn rNegI (tC (.int 1))) (tCons (tC (.int 1)) (tCons (tUn rNegI (tC (.int 1))) tNil)))) (tCons (tLst (tCons (tUn rNegI (tC (.int 1))) (tCons (tC (.int 1)) (tCons (tC (.int 0)) (tCons (tUn rNegI (tC (.int 1))) tNil))))) (tCons (tIf (tTest (tOp rLtI (tVar 1) (tC (.int 3)))) (tLst (tCons (tUn rNegI (tC (.int 2))) (tCons (tC (.int 1)) (tCons (tUn rNegI (tC (.int 1))) tNil)))) (tLst (tCons (tUn rNegI (tC (.int 1))) (tCons (tC (.int 1)) tNil)))) tNil))))) tNil))) (gName 4))
    (tSeq (tAsg (tLc (iRng1 (tCons (tVar 1) tNil)) (gName 6) tYes (tFn (sp__law_draw w K) (tCons (tVar 0) (tCons (tC (.int 2)) tNil))) [6]) (gName 5))
    (tSeq (tPar 7 8 (tCons (tLst tNil) (tCons (tLst tNil) tNil)))
    (tSeq (tFor (iRng1 (tCons (tOp rAddI (tVar 1) (tFn (sp__law_draw w K) (tCons (tVar 0) (tCons (tOp rAddI (tOp rMulI (tC (.int 2)) (tVar 1)) (tC (.int 2))) tNil)))) tNil)) (gName 9)
    (tSeq (tAsg (tIf (tTest (tOp rLtI (tVar 9) (tVar 1))) (tVar 9) (tFn (sp__law_draw w K) (tCons (tVar 0) (tCons (tVar 1) tNil)))) (gName 6))
    (tSeq (tAsg (tIf (tTest (tOp rEq (tFn (sp__law_draw w K) (tCons (tVar 0) (tCons (tC (.int 2)) tNil))) (tC (.int 0)))) (tFn (sp__law_some_conditions w K) (tCons (tVar 0) (tCons (tVar 2) (tCons (tVar 3) tNil)))) (tTup tNil)) (gName 10))
    (tDrop (tBM K "list" rAppend (tVar 7) (tCons (tTup (tCons (tVar 6) (tCons (tVar 10) (tCons (tFn (sp__law_pick w K) (tCons (tVar 0) (tCons (tVar 4) tNil))) (tCons (tFn (sp__law_draw w K) (tCons (tVar 0) (tCons (tVar 1) tNil))) tNil))))) tNil))))))
    (tSeq (tFor (iRng1 (tCons (tFn (sp__law_pick w K) (tCons (tVar 0) (tCons (tLst (tCons (tC (.int 0)) (tCons (tC (.int 1)) (tCons (tC (.int 1)) (tCons (tC (.int 2)) tNil))))) tNil))) tNil)) (gName 9)
    (tSeq (tAsg (tFn (sp__law_draw w K) (tCons (tVar 0) (tCons (tVar 1) tNil))) (gName 6))
    (tDrop (tBM K "list" rAppend (tVar 8) (tCons (tTup (tCons (tVar 6) (tCons (tOp (rCatQ K) (tFn (sp__law_some_conditions w K) (tCons (tVar 0) (tCons (tVar 2) (tCons (tVar 3) tNil)))) (tFn (sp__law_pick w K) (tCons (tVar 0) (tCons (tLst (tCons (tTup tNil) (tCons (tTup (tCons (tTup (tCons (tC (.str "is")) (tCons (tC (.int 0)) tNil))) tNil)) tNil))) tNil)))) tNil))) tNil)))))
    (tRet (tDisp [((tC (.str "sides")), (tVar 5)), ((tC (.str "moves")), (tVar 7)), ((tC (.str "goals")), (tVar 8))])))))))
def t__law_some_book_3 (P : Program) (w : World) (K : PySem.W.Frag) : TS :=
    (tSeq (tAsg (tLc (iRng1 (tCons (tVar 1) tNil)) (gName 6) tYes (tFn (sp__law_draw w K) (tCons (tVar 0) (tCons (tC (.int 2)) tNil))) [6]) (gName 5))
    (tSeq (tPar 7 8 (tCons (tLst tNil) (tCons (tLst tNil) tNil)))
    (tSeq (tFor (iRng1 (tCons (tOp rAddI (tVar 1) (tFn (sp__law_draw w K) (tCons (tVar 0) (tCons (tOp rAddI (tOp rMulI (tC (.int 2)) (tVar 1)) (tC (.int 2))) tNil)))) tNil)) (gName 9)
    (tSeq (tAsg (tIf (tTest (tOp rLtI (tVar 9) (tVar 1))) (tVar 9) (tFn (sp__law_draw w K) (tCons (tVar 0) (tCons (tVar 1) tNil)))) (gName 6))
    (tSeq (tAsg (tIf (tTest (tOp rEq (tFn (sp__law_draw w K) (tCons (tVar 0) (tCons (tC (.int 2)) tNil))) (tC (.int 0)))) (tFn (sp__law_some_conditions w K) (tCons (tVar 0) (tCons (tVar 2) (tCons (tVar 3) tNil)))) (tTup tNil)) (gName 10))
    (tDrop (tBM K "list" rAppend (tVar 7) (tCons (tTup (tCons (tVar 6) (tCons (tVar 10) (tCons (tFn (sp__law_pick w K) (tCons (tVar 0) (tCons (tVar 4) tNil))) (tCons (tFn (sp__law_draw w K) (tCons (tVar 0) (tCons (tVar 1) tNil))) tNil))))) tNil))))))
    (tSeq (tFor (iRng1 (tCons (tFn (sp__law_pick w K) (tCons (tVar 0) (tCons (tLst (tCons (tC (.int 0)) (tCons (tC (.int 1)) (tCons (tC (.int 1)) (tCons (tC (.int 2)) tNil))))) tNil))) tNil)) (gName 9)
    (tSeq (tAsg (tFn (sp__law_draw w K) (tCons (tVar 0) (tCons (tVar 1) tNil))) (gName 6))
    (tDrop (tBM K "list" rAppend (tVar 8) (tCons (tTup (tCons (tVar 6) (tCons (tOp (rCatQ K) (tFn (sp__law_some_conditions w K) (tCons (tVar 0) (tCons (tVar 2) (tCons (tVar 3) tNil)))) (tFn (sp__law_pick w K) (tCons (tVar 0) (tCons (tLst (tCons (tTup tNil) (tCons (tTup (tCons (tTup (tCons (tC (.str "is")) (tCons (tC (.int 0)) tNil))) tNil)) tNil))) tNil)))) tNil))) tNil)))))
    (tRet (tDisp [((tC (.str "sides")), (tVar 5)), ((tC (.str "moves")), (tVar 7)), ((tC (.str "goals")), (tVar 8))]))))))
section
variable {P : Program} {w : World} {K : PySem.W.Frag} {mg : Str → Option Value} (E : Ctx w K mg)
/-- the shifts one may draw -/
def ShOk (xs : List V) : Prop := xs ≠ [] ∧ xs.length ≤ 4 ∧ ∀ x ∈ xs, ∃ s : Int, x = .int s ∧ -3 ≤ s ∧ s ≤ 3
theorem some_book_3 {p c sh : Addr} {n pl : Nat} {wd mo : Int} {H0 H : Hp} {Q : VK} {sl : List V} (b0 : But p H0 H) (pen : Pen H p c n) (hn : n ≤ 2000000) (hp1 : 1 ≤ pl) (hp2 : pl ≤ 4) (w0 : 0 ≤ wd) (w1 : wd ≤ 3) (m0 : 1 ≤ mo) (m1 : mo ≤ 3)
    (hs : H sh = some (.lst sl)) (ok : ShOk sl) (q : ∀ H' v B, But p H0 H' → Pen H' p c (n + 900) → LwB K H' v B → B.OkB 4 13 2 3 3 → Q v H') :
    t__law_some_book_3 P w K { nx := fun _ H' => Q .non H', rt := Q } [some (.ref p), some (.int pl), some (.int wd), some (.int mo), some (.ref sh), none, none, none, none, none, none] H := by
  -- the sides
  refine ⟨_, rfl, _, rfl, by omega, by omega, ?_⟩
  rw [Int.toNat_natCast]
  intro D hD
  have ncD : c ≠ D := fun z => pen.cn (by rw [z]; exact hD)
  refine lc_map (· = p) (fun a z => by rw [z]; exact pen.pn) hD (walk_range (lo := 0) (n := pl)) (by omega) (fun i v H' => ∃ s : Int, v = .int s ∧ (s = 0 ∨ s = 1)) (fun i H' => Pen H' p c (n + i)) (fun _ _ _ _ => trivial) (pen.ex (Ex.new hD)) (fun _ _ _ _ _ _ z => z) (fun i H' zs hl e pn => pn.lst hl ncD) (fun _ _ _ _ _ _ _ _ _ _ z => z) ?_ ?_
  · rintro i y H2 H2' kk hi hl e pn ⟨rfl, hy⟩ k1
    exact ⟨rfl, _, rfl, p, c, n + i, 2, rfl, pn, by omega, by decide, by decide, fun H3 s b3 p3 s0 s1 => k1 _ H3 b3.frm ⟨s, rfl, by omega⟩ p3⟩
  · intro acc H1 e1 hl1 len1 z1 pen1
    obtain ⟨sds, als⟩ := al_exists (R := fun v (y : Int) => v = .int y ∧ (y = 0 ∨ y = 1)) z1
    have eacc : acc = sds.map V.int := by
      refine List.ext_getElem? fun i => ?_
      rw [List.getElem?_map]
      cases q : acc[i]? with
      | none =>
        rw [List.getElem?_eq_none]
        · rfl
        · rw [← als.1]
          exact List.getElem?_eq_none_iff.mp q
      | some v =>
        obtain ⟨y, h1, h2, _⟩ := als.get q
        rw [h1, h2]
        rfl
    have lens : sds.length = pl := by rw [← als.1, len1]
    have oks : ∀ x ∈ sds, x = 0 ∨ x = 1 := fun x hx => by
      obtain ⟨i, hi, rfl⟩ := List.getElem_of_mem hx
      obtain ⟨v, _, _, h⟩ := als.at (List.getElem?_eq_getElem hi)
      exact h
    rw [eacc] at hl1
    have b1 : But p H0 H1 := b0.trans e1.but
    have hsh1 : H1 sh = some (.lst sl) := (pen.kp (K := K) e1.but).l _ _ hs
    -- the lists of moves and goals
    refine ⟨(by show 0 ≤ sizeLine; decide), fun m hm => ⟨(by show 0 ≤ sizeLine; decide), fun g hg => ⟨_, _, rfl, ?_⟩⟩⟩
    have em : Ex H1 (upd H1 m (.lst [])) := Ex.new hm
    have eg : Ex (upd H1 m (.lst [])) (upd (upd H1 m (.lst [])) g (.lst [])) := Ex.new hg
    generalize hH2 : upd (upd H1 m (.lst [])) g (.lst []) = H2 at *
    have e12 : Ex H1 H2 := em.trans eg
    have hm2 : H2 m = some (.lst []) := eg _ _ upd_same
    have hg2 : H2 g = some (.lst []) := by rw [← hH2]; exact upd_same
    have nm : ∀ {x : Addr}, H1 x ≠ none → x ≠ m := fun h z => h (by rw [z]; exact hm)
    have ng : ∀ {x : Addr}, H1 x ≠ none → x ≠ g := fun h z => h (by
      rw [z]
      cases q : H1 g with
      | none => rfl
      | some o => rw [em _ _ q] at hg; cases hg)
    have ngm : g ≠ m := fun z => by rw [z, upd_same] at hg; cases hg
    have l1 : ∀ {x : Addr} {o : HO}, H1 x = some o → H1 x ≠ none := fun h z => by rw [h] at z; cases z
    have hmn : H0 m = none := by
      cases q : H0 m with
      | none => rfl
      | some o =>
        by_cases z : m = p
        · exact absurd (by rw [← z]; exact hm) pen1.pn
        · rw [b1 _ _ z q] at hm
          cases hm
    have hgn : H0 g = none := by
      cases q : H0 g with
      | none => rfl
      | some o =>
        by_cases z : g = p
        · exact absurd (z ▸ (by
            cases q : H1 g with
            | none => rfl
            | some o => rw [em _ _ q] at hg; cases hg)) pen1.pn
        · rw [em _ _ (b1 _ _ z q)] at hg
          cases hg
    have pen2 := pen1.ex e12
    have b2 : But p H0 H2 := b1.trans (.of e12)
    refine ⟨_, rfl, _, rfl, _, rfl, 2, (pl : Nat), rfl, rfl, .inl ⟨by decide, by decide⟩, _, 2, rfl, rfl, p, c, _, _, rfl, pen2, by omega, by omega, by omega, fun H3 k b3 p3 k0 k1 => ?_⟩
    have kp3 := pen2.kp (K := K) b3
    refine ⟨(pl : Nat), k, rfl, rfl, _, rfl, by omega, by omega, ?_⟩
    -- the moves
    refine for_it walk_range (fun i σ H' => (∃ x6 x9 x10, σ = [some (.ref p), some (.int pl), some (.int wd), some (.int mo), some (.ref sh), some (.ref D), x6, some (.ref m), some (.ref g), x9, x10]) ∧ But p H0 H' ∧ Pen H' p c (n + 8 + 12 * i) ∧ H' sh = some (.lst sl) ∧ H' D = some (.lst (sds.map V.int)) ∧ H' g = some (.lst []) ∧
        ∃ (ms : List V) (mvs : List Mv), H' m = some (.lst ms) ∧ DtAll K H' ms (mvs.map Mv.d) ∧ mvs.length = i ∧ ∀ x ∈ mvs, x.OkB pl 3 3)
      ⟨⟨_, _, _, rfl⟩, b2.trans b3, p3.mono (by omega), kp3.l _ _ (e12 _ _ hsh1), kp3.l _ _ (e12 _ _ hl1), kp3.l _ _ hg2, [], [], kp3.l _ _ hm2, .nil, rfl, fun x hx => by cases hx⟩ (fun _ _ _ _ _ => trivial) ?_ ?_
    · rintro i x σ H4 H4' hi ⟨⟨x6, x9, x10, rfl⟩, b4, p4, s4, d4, g4, ms, mvs, hm4, al4, len4, ok4⟩ ⟨rfl, hx⟩
      have hx2 : x = .int (i : Nat) := hx.trans (congrArg V.int (Int.zero_add _))
      subst hx2
      -- place, conditions, the rest of the turn
      have rest : ∀ (H5 : Hp) (pc : Nat), pc < pl → But p H4' H5 → Pen H5 p c (n + 8 + 12 * i + 1) → ∀ (cs : List Cd) (cv : V) (H6 : Hp), But p H5 H6 → Pen H6 p c (n + 8 + 12 * i + 8) → Dt K H6 cv (cdsD cs) → CdsB 3 3 cs → ∀ x9 : Option V,
          tDrop (tBM K "list" rAppend (tVar 7) (tCons (tTup (tCons (tVar 6) (tCons (tVar 10) (tCons (tFn (sp__law_pick w K) (tCons (tVar 0) (tCons (tVar 4) tNil))) (tCons (tFn (sp__law_draw w K) (tCons (tVar 0) (tCons (tVar 1) tNil))) tNil))))) tNil))
          { nx := fun σ H' => (∃ x6 x9 x10, σ = [some (.ref p), some (.int pl), some (.int wd), some (.int mo), some (.ref sh), some (.ref D), x6, some (.ref m), some (.ref g), x9, x10]) ∧ But p H0 H' ∧ Pen H' p c (n + 8 + 12 * (i + 1)) ∧ H' sh = some (.lst sl) ∧ H' D = some (.lst (sds.map V.int)) ∧ H' g = some (.lst []) ∧
            ∃ (ms : List V) (mvs : List Mv), H' m = some (.lst ms) ∧ DtAll K H' ms (mvs.map Mv.d) ∧ mvs.length = i + 1 ∧ ∀ x ∈ mvs, x.OkB pl 3 3, rt := Q }
          [some (.ref p), some (.int pl), some (.int wd), some (.int mo), some (.ref sh), some (.ref D), some (.int pc), some (.ref m), some (.ref g), x9, some cv] H6 := by
        intro H5 pc hpc b5 p5 cs cv H6 b6 p6 dcv okc x9
        have k5 := p4.kp (K := K) b5
        have k6 := p5.kp (K := K) b6
        have kk := k5.trans k6
        refine ⟨_, rfl, .inl ⟨rfl, _, Evl.sq_of (kk.l _ _ hm4)⟩, _, rfl, _, rfl, _, rfl, _, rfl, p, c, sh, _, sl, rfl, p6, by omega, .inl (Evl.sq_of (kk.l _ _ s4)), ok.1, Nat.lt_of_le_of_lt ok.2.1 (by decide), fun H7 sv b7 p7 hsv => ?_⟩
        obtain ⟨s, rfl, sa, sb⟩ := ok.2.2 sv hsv
        have k7 := p6.kp (K := K) b7
        refine ⟨_, rfl, _, rfl, p, c, _, (pl : Nat), rfl, p7, by omega, by omega, by omega, fun H8 t b8 p8 t0 t1 => ⟨(by show 4 ≤ sizeLine; decide), fun T hT => ?_⟩⟩
        have k8 := p7.kp (K := K) b8
        obtain ⟨tn, rfl⟩ : ∃ tn : Nat, t = (tn : Int) := ⟨t.toNat, by omega⟩
        have eT := Ex.new (o := .tup [.int (pc : Nat), cv, .int s, .int (tn : Nat)]) hT
        have kall := (kk.trans k7).trans (k8.trans (Kp.ex (K := K) eT))
        have hm9 := kall.l _ _ hm4
        have lenms : ms.length < 1000 := by
          rw [al4.1, List.length_map, len4]
          omega
        have p9 := p8.ex eT
        have bT := ((((b4.trans b5).trans b6).trans b7).trans b8).trans (.of eT)
        refine ⟨m, ms, _, rfl, rfl, hm9, Evl.sz_lt (by omega), ⟨_, _, _, rfl⟩, bT.mut hmn, ?_, ?_, ?_, ?_, ms ++ [.ref T], mvs ++ [⟨pc, cs, s, tn⟩], upd_same, ?_, by rw [List.length_append, len4]; rfl, fun x hx => ?_⟩
        · exact (p9.lst ⟨_, hm9⟩ (nm pen1.cn)).mono (by omega)
        · rw [upd_ne (nm (l1 hsh1))]
          exact kall.l _ _ s4
        · rw [upd_ne (nm (l1 hl1))]
          exact kall.l _ _ d4
        · rw [upd_ne ngm]
          exact kall.l _ _ g4
        · rw [List.map_append]
          refine ((al4.tk kall.t).app (.one ?_)).tk (.up hm9 noTup_lst)
          exact Dt.mk (Evl.st_of upd_same) (.cons (.int _) (.cons (dcv.tk (k7.trans (k8.trans (Kp.ex (K := K) eT))).t) (.cons (.int _) (.one (.int _)))))
        · rcases List.mem_append.mp hx with hx | hx
          · exact ok4 x hx
          · rw [List.mem_singleton.mp hx]
            exact ⟨hpc, okc, sa, sb, by show tn < pl; omega⟩
      -- the conditions
      have cond : ∀ (H5 : Hp) (pc : Nat), pc < pl → But p H4' H5 → Pen H5 p c (n + 8 + 12 * i + 1) → ∀ x9 : Option V,
          tSeq (tAsg (tIf (tTest (tOp rEq (tFn (sp__law_draw w K) (tCons (tVar 0) (tCons (tC (.int 2)) tNil))) (tC (.int 0)))) (tFn (sp__law_some_conditions w K) (tCons (tVar 0) (tCons (tVar 2) (tCons (tVar 3) tNil)))) (tTup tNil)) (gName 10))
          (tDrop (tBM K "list" rAppend (tVar 7) (tCons (tTup (tCons (tVar 6) (tCons (tVar 10) (tCons (tFn (sp__law_pick w K) (tCons (tVar 0) (tCons (tVar 4) tNil))) (tCons (tFn (sp__law_draw w K) (tCons (tVar 0) (tCons (tVar 1) tNil))) tNil))))) tNil)))
          { nx := fun σ H' => (∃ x6 x9 x10, σ = [some (.ref p), some (.int pl), some (.int wd), some (.int mo), some (.ref sh), some (.ref D), x6, some (.ref m), some (.ref g), x9, x10]) ∧ But p H0 H' ∧ Pen H' p c (n + 8 + 12 * (i + 1)) ∧ H' sh = some (.lst sl) ∧ H' D = some (.lst (sds.map V.int)) ∧ H' g = some (.lst []) ∧
            ∃ (ms : List V) (mvs : List Mv), H' m = some (.lst ms) ∧ DtAll K H' ms (mvs.map Mv.d) ∧ mvs.length = i + 1 ∧ ∀ x ∈ mvs, x.OkB pl 3 3, rt := Q }
          [some (.ref p), some (.int pl), some (.int wd), some (.int mo), some (.ref sh), some (.ref D), some (.int pc), some (.ref m), some (.ref g), x9, x10] H5 := by
        intro H5 pc hpc b5 p5 x9
        refine ⟨_, rfl, p, c, _, 2, rfl, p5, by omega, by decide, by decide, fun H6 z b6 p6 z0 z1 => ⟨rfl, _, rfl, ?_⟩⟩
        refine ite2 (fun _ => ?_) fun _ => ?_
        · refine ⟨_, rfl, _, rfl, _, rfl, p, c, _, wd, mo, rfl, p6, by omega, w0, w1, m0, m1, fun H7 cv cs b7 p7 dt okc => ?_⟩
          exact rest H5 pc hpc b5 p5 cs cv H7 (b6.trans b7) (p7.mono (by omega)) dt (okc.mono (by decide) (by decide)) x9
        · refine ⟨(by show 0 ≤ sizeLine; decide), fun T hT => ?_⟩
          exact rest H5 pc hpc b5 p5 [] (.ref T) _ (b6.trans (.of (Ex.new hT))) ((p6.ex (Ex.new hT)).mono (by omega)) (Dt.mk (Evl.st_of upd_same) .nil) ⟨by decide, fun x hx => by cases hx⟩ x9
      refine ⟨_, rfl, _, rfl, _, _, rfl, rfl, _, rfl, ?_⟩
      refine ite2 (fun hlt => ?_) fun _ => ?_
      · have hlt2 : ((i : Nat) : Int) < (pl : Nat) := of_decide_eq_true hlt
        exact ⟨_, rfl, cond H4' i (by omega) (.refl _ _) (p4.mono (by omega)) _⟩
      · refine ⟨_, rfl, _, rfl, p, c, _, (pl : Nat), rfl, p4, by omega, by omega, by omega, fun H5 t b5 p5 t0 t1 => ?_⟩
        obtain ⟨tn, rfl⟩ : ∃ tn : Nat, t = (tn : Int) := ⟨t.toNat, by omega⟩
        exact cond H5 tn (by omega) b5 p5 _
    · -- the goals
      rintro σ H4 ⟨⟨x6, x9, x10, rfl⟩, b4, p4, s4, d4, g4, ms, mvs, hm4, al4, len4, ok4⟩
      have hk : ((pl : Int) + k).toNat ≤ 13 := by omega
      have hk1 : 1 ≤ ((pl : Int) + k).toNat := by omega
      refine ⟨_, rfl, (by show 4 ≤ sizeLine; decide), fun L hL => ⟨p, c, L, _, _, rfl, p4.ex (Ex.new hL), by omega, .inl (Evl.sq_of upd_same), by simp, by show 4 < 1000000; decide, fun H5 x b5 p5 hx => ?_⟩⟩
      obtain ⟨gn, rfl, gk⟩ : ∃ gn : Nat, x = .int gn ∧ gn ≤ 2 := by
        simp only [List.mem_cons, List.not_mem_nil, or_false] at hx
        rcases hx with rfl | rfl | rfl | rfl
        · exact ⟨0, rfl, by decide⟩
        · exact ⟨1, rfl, by decide⟩
        · exact ⟨1, rfl, by decide⟩
        · exact ⟨2, rfl, by decide⟩
      have k5 := (Kp.ex (K := K) (Ex.new hL)).trans ((p4.ex (Ex.new hL)).kp b5)
      refine ⟨_, rfl, by omega, by omega, ?_⟩
      rw [Int.toNat_natCast]
      refine for_it walk_range (fun i σ H' => (∃ x6 x9 x10, σ = [some (.ref p), some (.int pl), some (.int wd), some (.int mo), some (.ref sh), some (.ref D), x6, some (.ref m), some (.ref g), x9, x10]) ∧ But p H0 H' ∧ Pen H' p c (n + 200 + 12 * i) ∧ H' D = some (.lst (sds.map V.int)) ∧ H' m = some (.lst ms) ∧ DtAll K H' ms (mvs.map Mv.d) ∧
          ∃ (gs : List V) (gws : List Gw), H' g = some (.lst gs) ∧ DtAll K H' gs (gws.map Gw.d) ∧ gws.length = i ∧ ∀ x ∈ gws, x.OkB pl 3 3)
        ⟨⟨_, _, _, rfl⟩, (b4.trans (.of (Ex.new hL))).trans b5, p5.mono (by omega), k5.l _ _ d4, k5.l _ _ hm4, al4.tk k5.t, [], [], k5.l _ _ g4, .nil, rfl, fun x hx => by cases hx⟩ (fun _ _ _ _ _ => trivial) ?_ ?_
      · rintro i x σ H6 H6' hi ⟨⟨x6, x9, x10, rfl⟩, b6, p6, d6, m6, am6, gs, gws, g6, ag6, len6, ok6⟩ ⟨rfl, hx⟩
        refine ⟨_, rfl, _, rfl, p, c, _, (pl : Nat), rfl, p6, by omega, by omega, by omega, fun H7 t b7 p7 t0 t1 => ?_⟩
        obtain ⟨tn, rfl⟩ : ∃ tn : Nat, t = (tn : Int) := ⟨t.toNat, by omega⟩
        have k7 := p6.kp (K := K) b7
        refine ⟨_, rfl, .inl ⟨rfl, _, Evl.sq_of (k7.l _ _ g6)⟩, _, rfl, _, rfl, _, rfl, _, rfl, p, c, _, wd, mo, rfl, p7, by omega, w0, w1, m0, m1, fun H8 cv cs b8 p8 dt okc => ?_⟩
        have k8 := p7.kp (K := K) b8
        refine ⟨_, rfl, (by show 0 ≤ sizeLine; decide), fun T1 hT1 => ⟨(by show 2 ≤ sizeLine; decide), fun T2 hT2 => ⟨(by show 1 ≤ sizeLine; decide), fun T3 hT3 => ⟨(by show 2 ≤ sizeLine; decide), fun L hL => ?_⟩⟩⟩⟩
        have f1 := Ex.new (o := .tup []) hT1
        have f2 := Ex.new (o := .tup [.str "is", .int 0]) hT2
        have f3 := Ex.new (o := .tup [.ref T2]) hT3
        have f4 := Ex.new (o := .lst [.ref T1, .ref T3]) hL
        have f14 := ((f1.trans f2).trans f3).trans f4
        refine ⟨p, c, L, _, _, rfl, p8.ex f14, by omega, .inl (Evl.sq_of upd_same), by simp, by show 2 < 1000000; decide, fun H9 x9 b9 p9 hx9 => ?_⟩
        have k9 := (Kp.ex (K := K) f14).trans ((p8.ex f14).kp b9)
        obtain ⟨ex, dx, okx⟩ : ∃ ex : List Cd, Dt K H9 x9 (cdsD ex) ∧ CdsB 3 1 ex := by
          simp only [List.mem_cons, List.not_mem_nil, or_false] at hx9
          rcases hx9 with rfl | rfl
          · exact ⟨[], (Dt.mk (Evl.st_of (f4 _ _ (f3 _ _ (f2 _ _ upd_same)))) .nil).tk ((p8.ex f14).kp b9).t, by decide, fun x hx => by cases hx⟩
          · refine ⟨[.eq 0], (Dt.mk (Evl.st_of (f4 _ _ upd_same)) (.one (Dt.mk (Evl.st_of (f4 _ _ (f3 _ _ upd_same))) (.cons (.str _) (.one (.int _)))))).tk ((p8.ex f14).kp b9).t, by decide, fun x hx => ?_⟩
            rw [List.mem_singleton.mp hx]
            exact ⟨by decide, by decide⟩
        obtain ⟨ca, cx, rfl, sc, ac⟩ := (dt.tk k9.t).tupD
        obtain ⟨xa, xx, rfl, sx, ax⟩ := dx.tupD
        have lc : cx.length = cs.length := by rw [ac.1, List.length_map]
        have lx : xx.length = ex.length := by rw [ax.1, List.length_map]
        have oc1 := okc.1
        have ox1 := okx.1
        refine ⟨ca, xa, cx, xx, rfl, rfl, sc, sx, by omega, fun cc H10 e10 s10 => ⟨(by show 2 ≤ sizeLine; decide), fun T hT => ?_⟩⟩
        have kT := (k8.trans k9).trans ((Kp.ex e10).trans (.ex (Ex.new (o := .tup [.int tn, .ref cc]) hT)))
        have hg9 := (k7.trans kT).l _ _ g6
        have lengs : gs.length < 1000 := by
          rw [ag6.1, List.length_map, len6]
          omega
        have bT : But p H0 (upd H10 T (.tup [.int tn, .ref cc])) := ((((((b6.trans b7).trans b8).trans (.of f14)).trans b9).trans (.of e10)).trans (.of (Ex.new hT)))
        refine ⟨g, gs, _, rfl, rfl, hg9, Evl.sz_lt (by omega), ⟨_, _, _, rfl⟩, bT.mut hgn, ?_, ?_, ?_, ?_, gs ++ [.ref T], gws ++ [⟨tn, cs ++ ex⟩], upd_same, ?_, by rw [List.length_append, len6]; rfl, fun x hx => ?_⟩
        · exact ((p9.ex (e10.trans (Ex.new hT))).lst ⟨_, hg9⟩ (ng pen1.cn)).mono (by omega)
        · rw [upd_ne (ng (l1 hl1))]
          exact (k7.trans kT).l _ _ d6
        · rw [upd_ne ngm.symm]
          exact (k7.trans kT).l _ _ m6
        · exact (am6.tk (k7.trans kT).t).tk (.up hg9 noTup_lst)
        · rw [List.map_append]
          refine ((ag6.tk (k7.trans kT).t).app (.one ?_)).tk (.up hg9 noTup_lst)
          refine Dt.mk (Evl.st_of upd_same) (.cons (.int _) (.one ?_))
          show Dt K _ (.ref cc) (.tuple ((cs ++ ex).map Cd.d))
          rw [List.map_append]
          exact Dt.mk (Evl.ex_t (Ex.new hT) s10) ((ac.app ax).tk (.ex (e10.trans (Ex.new hT))))
        · rcases List.mem_append.mp hx with hx | hx
          · exact ok6 x hx
          · rw [List.mem_singleton.mp hx]
            refine ⟨by show tn < pl; omega, by show (cs ++ ex).length ≤ 3; rw [List.length_append]; omega, fun y hy => ?_⟩
            rcases List.mem_append.mp hy with hy | hy
            · exact okc.2 y hy
            · exact okx.2 y hy
      · rintro σ H6 ⟨⟨x6, x9, x10, rfl⟩, b6, p6, d6, m6, am6, gs, gws, g6, ag6, len6, ok6⟩ R hR
        have eR : Ex H6 (upd H6 R (.dK [])) := Ex.new hR
        refine ⟨_, rfl, _, rfl, _, rfl, upd_same, bookD D m g, rfl, (by show 3 ≤ 15; decide), ?_⟩
        have eR2 : Ex H6 (upd (upd H6 R (.dK [])) R (.dK (bookD D m g))) := eR.mut hR
        refine q _ _ ⟨sds, mvs, gws⟩ (b6.trans (.of eR2)) ((p6.ex eR2).mono (by omega)) ⟨R, D, m, g, ms, gs, rfl, upd_same, eR2 _ _ d6, eR2 _ _ m6, eR2 _ _ g6, am6.tk (.ex eR2), ag6.tk (.ex eR2)⟩ ?_
        refine ⟨by show 1 ≤ sds.length; omega, by show sds.length ≤ 4; omega, oks, by show mvs.length ≤ 13; omega, ?_, by show gws.length ≤ 2; omega, ?_, ?_⟩
        · intro z
          have : mvs.length = 0 := congrArg List.length z
          omega
        · show ∀ x ∈ mvs, x.OkB sds.length 3 3
          rw [lens]
          exact ok4
        · show ∀ x ∈ gws, x.OkB sds.length 3 3
          rw [lens]
          exact ok6
theorem some_book_2 {p c : Addr} {n pl : Nat} {wd mo : Int} {H0 H : Hp} {Q : VK} (b0 : But p H0 H) (pen : Pen H p c n) (hn : n ≤ 1500000) (hp1 : 1 ≤ pl) (hp2 : pl ≤ 4) (w0 : 0 ≤ wd) (w1 : wd ≤ 3) (m0 : 1 ≤ mo) (m1 : mo ≤ 3)
    (q : ∀ H' v B, But p H0 H' → Pen H' p c (n + 950) → LwB K H' v B → B.OkB 4 13 2 3 3 → Q v H') :
    t__law_some_book_2 P w K { nx := fun _ H' => Q .non H', rt := Q } [some (.ref p), some (.int pl), some (.int wd), some (.int mo), none, none, none, none, none, none, none] H := by
  refine ⟨_, rfl, 1, rfl, (by show 3 ≤ sizeLine; decide), fun L1 h1 => ⟨1, rfl, 1, rfl, (by show 3 ≤ sizeLine; decide), fun L2 h2 => ⟨1, rfl, 1, rfl, (by show 4 ≤ sizeLine; decide), fun L3 h3 => ⟨_, rfl, _, 3, rfl, rfl, _, rfl, ?_⟩⟩⟩⟩
  have f1 := Ex.new (o := .lst [.int (-1), .int 0, .int 1]) h1
  have f2 := Ex.new (o := .lst [.int (-1), .int 1, .int (-1)]) h2
  have f3 := Ex.new (o := .lst [.int (-1), .int 1, .int 0, .int (-1)]) h3
  generalize hH3 : upd (upd (upd H L1 (.lst [.int (-1), .int 0, .int 1])) L2 (.lst [.int (-1), .int 1, .int (-1)])) L3 (.lst [.int (-1), .int 1, .int 0, .int (-1)]) = H3
  have g1 : H3 L1 = some (.lst [.int (-1), .int 0, .int 1]) := by rw [← hH3]; exact f3 _ _ (f2 _ _ upd_same)
  have g2 : H3 L2 = some (.lst [.int (-1), .int 1, .int (-1)]) := by rw [← hH3]; exact f3 _ _ upd_same
  have g3 : H3 L3 = some (.lst [.int (-1), .int 1, .int 0, .int (-1)]) := by rw [← hH3]; exact upd_same
  have f13 : Ex H H3 := by rw [← hH3]; exact (f1.trans f2).trans f3
  have s1 : ShOk [.int (-1), .int 0, .int 1] := ⟨by simp, by decide, fun x hx => by
    simp only [List.mem_cons, List.not_mem_nil, or_false] at hx
    rcases hx with rfl | rfl | rfl <;> exact ⟨_, rfl, by decide, by decide⟩⟩
  have s2 : ShOk [.int (-1), .int 1, .int (-1)] := ⟨by simp, by decide, fun x hx => by
    simp only [List.mem_cons, List.not_mem_nil, or_false] at hx
    rcases hx with rfl | rfl | rfl <;> exact ⟨_, rfl, by decide, by decide⟩⟩
  have s3 : ShOk [.int (-1), .int 1, .int 0, .int (-1)] := ⟨by simp, by decide, fun x hx => by
    simp only [List.mem_cons, List.not_mem_nil, or_false] at hx
    rcases hx with rfl | rfl | rfl | rfl <;> exact ⟨_, rfl, by decide, by decide⟩⟩
  have rest : ∀ (L4 : Addr) (sl : List V), ShOk sl → ∀ H4, Ex H3 H4 → H4 L4 = some (.lst sl) → ∀ L, H4 L = none → ∀ H5 x, But p (upd H4 L (.lst [.ref L1, .ref L2, .ref L3, .ref L4])) H5 → Pen H5 p c (n + 1) → x ∈ ([.ref L1, .ref L2, .ref L3, .ref L4] : List V) →
      t__law_some_book_3 P w K { nx := fun _ H' => Q .non H', rt := Q } [some (.ref p), some (.int pl), some (.int wd), some (.int mo), some x, none, none, none, none, none, none] H5 := by
    intro L4 sl ok4 H4 e4 hl4 L hL H5 x b5 p5 hx
    have e5 : Ex H4 (upd H4 L (.lst [.ref L1, .ref L2, .ref L3, .ref L4])) := Ex.new hL
    have k5 := (Kp.ex (K := K) e5).trans (((pen.ex f13).ex (e4.trans e5)).kp b5)
    have b05 : But p H0 H5 := (b0.trans (.of ((f13.trans e4).trans e5))).trans b5
    simp only [List.mem_cons, List.not_mem_nil, or_false] at hx
    rcases hx with rfl | rfl | rfl | rfl
    · exact some_book_3 b05 p5 (by omega) hp1 hp2 w0 w1 m0 m1 (k5.l _ _ (e4 _ _ g1)) s1 fun H' v B b pn lw okB => q H' v B b (pn.mono (by omega)) lw okB
    · exact some_book_3 b05 p5 (by omega) hp1 hp2 w0 w1 m0 m1 (k5.l _ _ (e4 _ _ g2)) s2 fun H' v B b pn lw okB => q H' v B b (pn.mono (by omega)) lw okB
    · exact some_book_3 b05 p5 (by omega) hp1 hp2 w0 w1 m0 m1 (k5.l _ _ (e4 _ _ g3)) s3 fun H' v B b pn lw okB => q H' v B b (pn.mono (by omega)) lw okB
    · exact some_book_3 b05 p5 (by omega) hp1 hp2 w0 w1 m0 m1 (k5.l _ _ hl4) ok4 fun H' v B b pn lw okB => q H' v B b (pn.mono (by omega)) lw okB
  refine ite2 (fun _ => ?_) fun _ => ?_
  · refine ⟨2, rfl, 1, rfl, (by show 3 ≤ sizeLine; decide), fun L4 h4 => ⟨(by show 4 ≤ sizeLine; decide), fun L hL => ?_⟩⟩
    have e4 : Ex H3 (upd H3 L4 (.lst [.int (-2), .int 1, .int (-1)])) := Ex.new h4
    have e5 := Ex.new (o := .lst [.ref L1, .ref L2, .ref L3, .ref L4]) hL
    refine ⟨p, c, L, n, _, rfl, ((pen.ex f13).ex (e4.trans e5)), by omega, .inl (Evl.sq_of upd_same), by simp, by show 4 < 1000000; decide, fun H5 x b5 p5 hx => ?_⟩
    refine rest L4 [.int (-2), .int 1, .int (-1)] ⟨by simp, by decide, fun x hx => ?_⟩ _ e4 upd_same L hL H5 x b5 p5 hx
    simp only [List.mem_cons, List.not_mem_nil, or_false] at hx
    rcases hx with rfl | rfl | rfl <;> exact ⟨_, rfl, by decide, by decide⟩
  · refine ⟨1, rfl, (by show 2 ≤ sizeLine; decide), fun L4 h4 => ⟨(by show 4 ≤ sizeLine; decide), fun L hL => ?_⟩⟩
    have e4 : Ex H3 (upd H3 L4 (.lst [.int (-1), .int 1])) := Ex.new h4
    have e5 := Ex.new (o := .lst [.ref L1, .ref L2, .ref L3, .ref L4]) hL
    refine ⟨p, c, L, n, _, rfl, ((pen.ex f13).ex (e4.trans e5)), by omega, .inl (Evl.sq_of upd_same), by simp, by show 4 < 1000000; decide, fun H5 x b5 p5 hx => ?_⟩
    refine rest L4 [.int (-1), .int 1] ⟨by simp, by decide, fun x hx => ?_⟩ _ e4 upd_same L hL H5 x b5 p5 hx
    simp only [List.mem_cons, List.not_mem_nil, or_false] at hx
    rcases hx with rfl | rfl <;> exact ⟨_, rfl, by decide, by decide⟩
end
section
variable {P : Program} {w : World} {K : PySem.W.Frag} {mg : Str → Option Value} (E : Ctx w K mg)
include E
theorem rd__law_some_book (vs : List V) (H : Hp) (Q : VK) (E0 : XK) (h : sp__law_some_book w K vs H Q E0) : vs.length = 1 ∧ t__law_some_book P w K { nx := fun _ H' => Q .non H', rt := Q } (start N__law_some_book vs) H := by
  obtain ⟨p, c, n, rfl, pen, hn, q⟩ := h
  refine ⟨rfl, _, rfl, p, c, n, 4, rfl, pen, by omega, by decide, by decide, fun H1 i b1 p1 i0 i1 => ?_⟩
  obtain ⟨k, rfl⟩ : ∃ k : Nat, i = (k : Int) := ⟨i.toNat, by omega⟩
  refine ⟨1, k, rfl, rfl, _, rfl, p, c, n + 1, 4, rfl, p1, by omega, by decide, by decide, fun H2 wd b2 p2 w0 w1 => ⟨.int ((k + 1 : Nat) : Int), .int wd, ?_, ?_⟩⟩
  · show [V.int (1 + (k : Int)), V.int wd] = [.int ((k + 1 : Nat) : Int), .int wd]
    have e : (1 : Int) + (k : Int) = ((k + 1 : Nat) : Int) := by omega
    rw [e]
  · refine ⟨_, rfl, _, rfl, _, 4, rfl, rfl, _, rfl, ?_⟩
    have rest : ∀ u : Int, 1 ≤ u → u ≤ 3 → ∀ L, H2 L = none → ∀ H3 x, But p (upd H2 L (.lst [.int 1, .int 1, .int 1, .int 2, .int u])) H3 → Pen H3 p c (n + 3) → x ∈ ([.int 1, .int 1, .int 1, .int 2, .int u] : List V) →
        t__law_some_book_2 P w K { nx := fun _ H' => Q .non H', rt := Q } [some (.ref p), some (.int ((k + 1 : Nat) : Int)), some (.int wd), some x, none, none, none, none, none, none, none] H3 := by
      intro u u0 u1 L hL H3 x b3 p3 hx
      obtain ⟨mo, rfl, m0, m1⟩ : ∃ mo : Int, x = .int mo ∧ 1 ≤ mo ∧ mo ≤ 3 := by
        simp only [List.mem_cons, List.not_mem_nil, or_false] at hx
        rcases hx with rfl | rfl | rfl | rfl | rfl
        · exact ⟨1, rfl, by decide, by decide⟩
        · exact ⟨1, rfl, by decide, by decide⟩
        · exact ⟨1, rfl, by decide, by decide⟩
        · exact ⟨2, rfl, by decide, by decide⟩
        · exact ⟨u, rfl, u0, u1⟩
      exact some_book_2 (((b1.trans b2).trans (.of (Ex.new hL))).trans b3) p3 (by omega) (by omega) (by omega) w0 (by omega) m0 m1 fun H' v B b pn lw okB => q H' v B b (pn.mono (by omega)) lw okB
    refine ite2 (fun _ => ?_) fun _ => ?_
    · exact ⟨(by show 5 ≤ sizeLine; decide), fun L hL => ⟨p, c, L, n + 2, _, rfl, p2.ex (Ex.new hL), by omega, .inl (Evl.sq_of upd_same), by simp, by show 5 < 1000000; decide, fun H3 x b3 p3 hx => rest 3 (by decide) (by decide) L hL H3 x b3 p3 hx⟩⟩
    · exact ⟨(by show 5 ≤ sizeLine; decide), fun L hL => ⟨p, c, L, n + 2, _, rfl, p2.ex (Ex.new hL), by omega, .inl (Evl.sq_of upd_same), by simp, by show 5 < 1000000; decide, fun H3 x b3 p3 hx => rest 2 (by decide) (by decide) L hL H3 x b3 p3 hx⟩⟩
end
theorem ok__law_some_book {P : Program} {w : World} {K : PySem.W.Frag} {mg : Str → Option Value} {base : Heap} (E : Ctx w K mg) : DefOk P w K mg base "_law_some_book" [("_law_pen_here" : Str)] 5 (sp__law_some_book w K) := by
  obtain ⟨fd, F⟩ := E.D__law_some_book
  exact ⟨_, fd, fn_mk (t := t__law_some_book P w K) F sc__law_some_book (rd__law_some_book E) (fun cdv A outer s H E0 hr => (pss_cons (ps_par (i := 1) (j := 2) rfl sc__law_some_book.nd rfl rfl (by decide) rfl rfl (pa_cons (pe_op op_add pe_int (pe_fn (ok__law_draw E) (hr.mono (by decide)) (by rfl) (pa_cons (pv 0) (pa_cons pe_int pa_nil)))) (pa_cons (pe_fn (ok__law_draw E) (hr.mono (by decide)) (by rfl) (pa_cons (pv 0) (pa_cons pe_int pa_nil))) pa_nil)) rfl)
    (pss_cons (ps_set (i := 3) sc__law_some_book.nd rfl (Or.inl rfl) (pe_fn (ok__law_pick E) (hr.mono (by decide)) (by rfl) (pa_cons (pv 0) (pa_cons (pe_lst (pa_cons pe_int (pa_cons pe_int (pa_cons pe_int (pa_cons pe_int (pa_cons (pe_ifExp (pt_cmpR op_lt (pv 1) pe_int (nomark _)) pe_int pe_int) pa_nil)))))) pa_nil))))
    (pss_cons (ps_set (i := 4) sc__law_some_book.nd rfl (Or.inl rfl) (pe_fn (ok__law_pick E) (hr.mono (by decide)) (by rfl) (pa_cons (pv 0) (pa_cons (pe_lst (pa_cons (pe_lst (pa_cons (pe_un un_neg pe_int) (pa_cons pe_int (pa_cons pe_int pa_nil)))) (pa_cons (pe_lst (pa_cons (pe_un un_neg pe_int) (pa_cons pe_int (pa_cons (pe_un un_neg pe_int) pa_nil)))) (pa_cons (pe_lst (pa_cons (pe_un un_neg pe_int) (pa_cons pe_int (pa_cons pe_int (pa_cons (pe_un un_neg pe_int) pa_nil))))) (pa_cons (pe_ifExp (pt_cmpR op_lt (pv 1) pe_int (nomark _)) (pe_lst (pa_cons (pe_un un_neg pe_int) (pa_cons pe_int (pa_cons (pe_un un_neg pe_int) pa_nil)))) (pe_lst (pa_cons (pe_un un_neg pe_int) (pa_cons pe_int pa_nil)))) pa_nil))))) pa_nil))))
    (pss_cons (ps_setLc (i := 5) (own := [("_law_place", 6)]) (wi := (iRng1 (tCons (tVar 1) tNil))) (g := (gName 6)) (tt := tYes) (te := (tFn (sp__law_draw w K) (tCons (tVar 0) (tCons (tC (.int 2)) tNil)))) rfl sc__law_some_book.nd rfl rfl (sw_true rfl rfl rfl (by decide +kernel)) (pi_range1 (by rfl) E.f_range (pa_cons (pv 1) pa_nil)) (blkOk_by (own := [("_law_place", 6)]) (N := N__law_some_book) (sc := defScope s__law_some_book) (by decide +kernel)) (fun _ _ _ _ _ => (pg_name (i := 6) sc__law_some_book.nd rfl (Or.inl rfl))) (fun _ _ _ _ _ => pts_nil) (fun _ _ _ _ _ => (pe_fn (ok__law_draw E) (hr.mono (by decide)) (by rfl) (pa_cons (pv 0) (pa_cons pe_int pa_nil)))))
    (pss_cons (ps_par (i := 7) (j := 8) rfl sc__law_some_book.nd rfl rfl (by decide) rfl rfl (pa_cons (pe_lst pa_nil) (pa_cons (pe_lst pa_nil) pa_nil)) rfl)
    (pss_cons (ps_for PassesOwn.never rfl (pi_range1 (by rfl) E.f_range (pa_cons (pe_op op_add (pv 1) (pe_fn (ok__law_draw E) (hr.mono (by decide)) (by rfl) (pa_cons (pv 0) (pa_cons (pe_op op_add (pe_op op_mul pe_int (pv 1)) pe_int) pa_nil)))) pa_nil)) (pg_name (i := 9) sc__law_some_book.nd rfl (Or.inl rfl))
    (pss_cons (ps_set (i := 6) sc__law_some_book.nd rfl (Or.inl rfl) (pe_ifExp (pt_cmpR op_lt (pv 9) (pv 1) (nomark _)) (pv 9) (pe_fn (ok__law_draw E) (hr.mono (by decide)) (by rfl) (pa_cons (pv 0) (pa_cons (pv 1) pa_nil)))))
    (pss_cons (ps_set (i := 10) sc__law_some_book.nd rfl (Or.inl rfl) (pe_ifExp (pt_cmpR op_eq (pe_fn (ok__law_draw E) (hr.mono (by decide)) (by rfl) (pa_cons (pv 0) (pa_cons pe_int pa_nil))) pe_int (nomark _)) (pe_fn (ok__law_some_conditions E) (hr.mono (by decide)) (by rfl) (pa_cons (pv 0) (pa_cons (pv 2) (pa_cons (pv 3) pa_nil)))) (pe_tup pa_nil)))
    (pss_one (ps_expr (pe_bm PySem.F.plainAttrs_list PySem.F.slot_list_append PySem.F.type_list_append mt_append (pv 7) (pa_cons (pe_tup (pa_cons (pv 6) (pa_cons (pv 10) (pa_cons (pe_fn (ok__law_pick E) (hr.mono (by decide)) (by rfl) (pa_cons (pv 0) (pa_cons (pv 4) pa_nil))) (pa_cons (pe_fn (ok__law_draw E) (hr.mono (by decide)) (by rfl) (pa_cons (pv 0) (pa_cons (pv 1) pa_nil))) pa_nil))))) pa_nil)))))))
    (pss_cons (ps_for PassesOwn.never rfl (pi_range1 (by rfl) E.f_range (pa_cons (pe_fn (ok__law_pick E) (hr.mono (by decide)) (by rfl) (pa_cons (pv 0) (pa_cons (pe_lst (pa_cons pe_int (pa_cons pe_int (pa_cons pe_int (pa_cons pe_int pa_nil))))) pa_nil))) pa_nil)) (pg_name (i := 9) sc__law_some_book.nd rfl (Or.inl rfl))
    (pss_cons (ps_set (i := 6) sc__law_some_book.nd rfl (Or.inl rfl) (pe_fn (ok__law_draw E) (hr.mono (by decide)) (by rfl) (pa_cons (pv 0) (pa_cons (pv 1) pa_nil))))
    (pss_one (ps_expr (pe_bm PySem.F.plainAttrs_list PySem.F.slot_list_append PySem.F.type_list_append mt_append (pv 8) (pa_cons (pe_tup (pa_cons (pv 6) (pa_cons (pe_op op_catQ (pe_fn (ok__law_some_conditions E) (hr.mono (by decide)) (by rfl) (pa_cons (pv 0) (pa_cons (pv 2) (pa_cons (pv 3) pa_nil)))) (pe_fn (ok__law_pick E) (hr.mono (by decide)) (by rfl) (pa_cons (pv 0) (pa_cons (pe_lst (pa_cons (pe_tup pa_nil) (pa_cons (pe_tup (pa_cons (pe_tup (pa_cons pe_str (pa_cons pe_int pa_nil))) pa_nil)) pa_nil))) pa_nil)))) pa_nil))) pa_nil))))))
    (pss_one (ps_ret (pe_disp (pps_cons pe_str (pv 5) (pps_cons pe_str (pv 7) (pps_cons pe_str (pv 8) pps_nil))) (by rfl) (by rfl) (fun z => by cases z) (by decide)))))))))))), (FunD.bindsN F (fun _ _ _ _ _ _ us hl => match us, hl with | [_], _ => rfl)), E.g__law_some_book, F.kp⟩
end K28

set_option Elab.async false
set_option linter.all false
set_option maxRecDepth 100000
set_option maxHeartbeats 4000000
namespace K28
open PySem PySem.Spec PyProof.Rows L2
open Evl (Ex)

def sp__law_taking_book (w : World) (K : PySem.W.Frag) : Sp := fun vs H Q _ => ∃ (p c : Addr) (n : Nat), vs = [.ref p] ∧ Pen H p c n ∧ n ≤ 1000000 ∧ ∀ H' v B, But p H H' → Pen H' p c (n + 1000) → LwB K H' v B → B.OkB 4 13 2 3 3 → Q v H'
def sp__law_drawn_book (w : World) (K : PySem.W.Frag) : Sp := fun vs H Q _ => ∃ (p c : Addr) (n : Nat), vs = [.ref p] ∧ Pen H p c n ∧ n ≤ 500000 ∧ ∀ H' v B, But p H H' → Pen H' p c (n + 1001) → LwB K H' v B → B.OkB 4 13 2 3 3 → Q v H'
def N__law_taking_book : List Str := ["_law_pen_here", "_law_takes", "_law_take", "_law_moves", "_law_place"]
theorem sc__law_taking_book : FnScope N__law_taking_book ["_law_pen_here"] (defScope s__law_taking_book) := ⟨rfl, rfl, rfl, by decide +kernel, rfl, by decide +kernel, by decide +kernel⟩
/-- names: 0 _law_pen_here* 1 _law_takes 2 _law_take 3 _law_moves 4 _law_place -/
def t__law_taking_book (P : Program) (w : World) (K : PySem.W.Frag) : TS :=
    (tSeq (tAsg (tOp rCat (tLc (iList K (tLst (tCons (tC (.int 1)) (tCons (tC (.int 2)) (tCons (tC (.int 3)) tNil))))) (gName 2) (tTest (tOp rEq (tFn (sp__law_draw w K) (tCons (tVar 0) (tCons (tC (.int 2)) tNil))) (tC (.int 0)))) (tVar 2) [2]) (tLst (tCons (tFn (sp__law_pick w K) (tCons (tVar 0) (tCons (tLst (tCons (tC (.int 1)) (tCons (tC (.int 2)) tNil))) tNil))) tNil))) (gName 1))
    (tSeq (tAsg (tLst tNil) (gName 3))
    (tSeq (tFor (iList K (tVar 1)) (gName 2)
    (tFor (iRng1 (tCons (tC (.int 2)) tNil)) (gName 4)
    (tDrop (tBM K "list" rAppend (tVar 3) (tCons (tTup (tCons (tVar 4) (tCons (tTup (tCons (tTup (tCons (tC (.str "least")) (tCons (tVar 2) tNil))) tNil)) (tCons (tUn rNegI (tVar 2)) (tCons (tOp rSubI (tC (.int 1)) (tVar 4)) tNil))))) tNil)))))
    (tSeq (tIfS (tTest (tOp rEq (tFn (sp__law_draw w K) (tCons (tVar 0) (tCons (tC (.int 2)) tNil))) (tC (.int 0))))
    (tDrop (tBM K "list" rAppend (tVar 3) (tCons (tTup (tCons (tFn (sp__law_draw w K) (tCons (tVar 0) (tCons (tC (.int 2)) tNil))) (tCons (tFn (sp__law_pick w K) (tCons (tVar 0) (tCons (tLst (tCons (tTup tNil) (tCons (tTup (tCons (tTup (tCons (tC (.str "rest")) (tCons (tC (.int 2)) (tCons (tC (.int 1)) tNil)))) tNil)) tNil))) tNil))) (tCons (tC (.int 1)) (tCons (tFn (sp__law_draw w K) (tCons (tVar 0) (tCons (tC (.int 2)) tNil))) tNil))))) tNil)))
    tNext)
    (tRet (tDisp [((tC (.str "sides")), (tLst (tCons (tC (.int 0)) (tCons (tC (.int 1)) tNil)))), ((tC (.str "moves")), (tVar 3)), ((tC (.str "goals")), (tLst tNil))]))))))
def N__law_drawn_book : List Str := ["_law_pen_here"]
theorem sc__law_drawn_book : FnScope N__law_drawn_book ["_law_pen_here"] (defScope s__law_drawn_book) := ⟨rfl, rfl, rfl, by decide +kernel, rfl, by decide +kernel, by decide +kernel⟩
/-- names: 0 _law_pen_here -/
def t__law_drawn_book (P : Program) (w : World) (K : PySem.W.Frag) : TS :=
    (tRet (tIf (tTest (tOp rLtI (tFn (sp__law_draw w K) (tCons (tVar 0) (tCons (tC (.int 5)) tNil))) (tC (.int 2)))) (tFn (sp__law_taking_book w K) (tCons (tVar 0) tNil)) (tFn (sp__law_some_book w K) (tCons (tVar 0) tNil))))
def t__law_taking_book_1 (P : Program) (w : World) (K : PySem.W.Frag) : TS :=
    (tSeq (tAsg (tLst tNil) (gName 3))
    (tSeq (tFor (iList K (tVar 1)) (gName 2)
    (tFor (iRng1 (tCons (tC (.int 2)) tNil)) (gName 4)
    (tDrop (tBM K "list" rAppend (tVar 3) (tCons (tTup (tCons (tVar 4) (tCons (tTup (tCons (tTup (tCons (tC (.str "least")) (tCons (tVar 2) tNil))) tNil)) (tCons (tUn rNegI (tVar 2)) (tCons (tOp rSubI (tC (.int 1)) (tVar 4)) tNil))))) tNil)))))
    (tSeq (tIfS (tTest (tOp rEq (tFn (sp__law_draw w K) (tCons (tVar 0) (tCons (tC (.int 2)) tNil))) (tC (.int 0))))
    (tDrop (tBM K "list" rAppend (tVar 3) (tCons (tTup (tCons (tFn (sp__law_draw w K) (tCons (tVar 0) (tCons (tC (.int 2)) tNil))) (tCons (tFn (sp__law_pick w K) (tCons (tVar 0) (tCons (tLst (tCons (tTup tNil) (tCons (tTup (tCons (tTup (tCons (tC (.str "rest")) (tCons (tC (.int 2)) (tCons (tC (.int 1)) tNil)))) tNil)) tNil))) tNil))) (tCons (tC (.int 1)) (tCons (tFn (sp__law_draw w K) (tCons (tVar 0) (tCons (tC (.int 2)) tNil))) tNil))))) tNil)))
    tNext)
    (tRet (tDisp [((tC (.str "sides")), (tLst (tCons (tC (.int 0)) (tCons (tC (.int 1)) tNil)))), ((tC (.str "moves")), (tVar 3)), ((tC (.str "goals")), (tLst tNil))])))))
def t__law_taking_book_3 (P : Program) (w : World) (K : PySem.W.Frag) : TS :=
    (tSeq (tIfS (tTest (tOp rEq (tFn (sp__law_draw w K) (tCons (tVar 0) (tCons (tC (.int 2)) tNil))) (tC (.int 0))))
    (tDrop (tBM K "list" rAppend (tVar 3) (tCons (tTup (tCons (tFn (sp__law_draw w K) (tCons (tVar 0) (tCons (tC (.int 2)) tNil))) (tCons (tFn (sp__law_pick w K) (tCons (tVar 0) (tCons (tLst (tCons (tTup tNil) (tCons (tTup (tCons (tTup (tCons (tC (.str "rest")) (tCons (tC (.int 2)) (tCons (tC (.int 1)) tNil)))) tNil)) tNil))) tNil))) (tCons (tC (.int 1)) (tCons (tFn (sp__law_draw w K) (tCons (tVar 0) (tCons (tC (.int 2)) tNil))) tNil))))) tNil)))
    tNext)
    (tRet (tDisp [((tC (.str "sides")), (tLst (tCons (tC (.int 0)) (tCons (tC (.int 1)) tNil)))), ((tC (.str "moves")), (tVar 3)), ((tC (.str "goals")), (tLst tNil))])))
section
variable {P : Program} {w : World} {K : PySem.W.Frag} {mg : Str → Option Value} (E : Ctx w K mg)
/-- the last draws and the dict -/
theorem taking_3 {p c m : Addr} {n : Nat} {H0 H : Hp} {Q : VK} {ms : List V} {mvs : List Mv} {x1 x2 x4 : Option V} (b0 : But p H0 H) (pen : Pen H p c n) (hn : n ≤ 1500000) (hm0 : H0 m = none) (ncm : c ≠ m)
    (hm : H m = some (.lst ms)) (al : DtAll K H ms (mvs.map Mv.d)) (l1 : 1 ≤ mvs.length) (l2 : mvs.length ≤ 12) (ok : ∀ x ∈ mvs, x.OkB 2 3 3) (q : ∀ H' v B, But p H0 H' → Pen H' p c (n + 10) → LwB K H' v B → B.OkB 4 13 2 3 3 → Q v H') :
    t__law_taking_book_3 P w K { nx := fun _ H' => Q .non H', rt := Q } [some (.ref p), x1, x2, some (.ref m), x4] H := by
  have dict : ∀ (H : Hp) (n' : Nat) (ms : List V) (mvs : List Mv), But p H0 H → Pen H p c n' → n' ≤ n + 10 → H m = some (.lst ms) → DtAll K H ms (mvs.map Mv.d) → 1 ≤ mvs.length → mvs.length ≤ 13 → (∀ x ∈ mvs, x.OkB 2 3 3) →
      tRet (tDisp [((tC (.str "sides")), (tLst (tCons (tC (.int 0)) (tCons (tC (.int 1)) tNil)))), ((tC (.str "moves")), (tVar 3)), ((tC (.str "goals")), (tLst tNil))]) { nx := fun _ H' => Q .non H', rt := Q } [some (.ref p), x1, x2, some (.ref m), x4] H := by
    intro H n' ms mvs b pn hn' hm al l1 l2 ok R hR
    have eR : Ex H (upd H R (.dK [])) := Ex.new hR
    refine ⟨(by show 2 ≤ sizeLine; decide), fun s hs => ⟨_, rfl, (by show 0 ≤ sizeLine; decide), fun g hg => ?_⟩⟩
    have e1 := Ex.new (o := .lst [.int 0, .int 1]) hs
    have e2 := Ex.new (o := .lst []) hg
    refine ⟨e2 _ _ (e1 _ _ upd_same), bookD s m g, rfl, (by show 3 ≤ 15; decide), ?_⟩
    have eA := ((eR.trans e1).trans e2).mut (o := .dK (bookD s m g)) hR
    have nR : ∀ {x : Addr} {o : HO}, upd (upd (upd H R (.dK [])) s (.lst [.int 0, .int 1])) g (.lst []) x = some o → (∀ l, o ≠ .dK l) → x ≠ R := fun h z e => by
      rw [e] at h
      have h2 := e2 _ _ (e1 _ _ (upd_same (H := H) (a := R) (o := .dK [])))
      rw [h2] at h
      cases h
      exact z _ rfl
    refine q _ _ ⟨[0, 1], mvs, []⟩ (b.trans (.of eA)) ((pn.ex eA).mono hn') ⟨R, s, m, g, ms, [], rfl, upd_same, ?_, eA _ _ hm, ?_, al.tk (.ex eA), .nil⟩ ?_
    · rw [upd_ne (nR (e2 _ _ upd_same) fun l z => by cases z)]
      exact e2 _ _ upd_same
    · rw [upd_ne (nR upd_same fun l z => by cases z)]
      exact upd_same
    · refine ⟨by show 1 ≤ 2; decide, by show 2 ≤ 4; decide, fun x hx => ?_, l2, fun z => ?_, by show 0 ≤ 2; decide, ok, fun x hx => by cases hx⟩
      · simp only [List.mem_cons, List.not_mem_nil, or_false] at hx
        exact hx
      · have : mvs.length = 0 := congrArg List.length z
        omega
  refine ⟨_, rfl, p, c, n, 2, rfl, pen, by omega, by decide, by decide, fun H1 i b1 p1 i0 i1 => ⟨rfl, _, rfl, ?_⟩⟩
  have k1 := pen.kp (K := K) b1
  refine ite2 (fun _ => ?_) fun _ => ?_
  · refine ⟨_, rfl, .inl ⟨rfl, _, Evl.sq_of (k1.l _ _ hm)⟩, _, rfl, p, c, _, 2, rfl, p1, by omega, by decide, by decide, fun H2 t b2 p2 t0 t1 => ?_⟩
    refine ⟨_, rfl, (by show 0 ≤ sizeLine; decide), fun T1 hT1 => ⟨(by show 3 ≤ sizeLine; decide), fun T2 hT2 => ⟨(by show 1 ≤ sizeLine; decide), fun T3 hT3 => ⟨(by show 2 ≤ sizeLine; decide), fun L hL => ?_⟩⟩⟩⟩
    have f1 := Ex.new (o := .tup []) hT1
    have f2 := Ex.new (o := .tup [.str "rest", .int 2, .int 1]) hT2
    have f3 := Ex.new (o := .tup [.ref T2]) hT3
    have f4 := Ex.new (o := .lst [.ref T1, .ref T3]) hL
    have f14 := ((f1.trans f2).trans f3).trans f4
    refine ⟨p, c, L, _, _, rfl, p2.ex f14, by omega, .inl (Evl.sq_of upd_same), by simp, by show 2 < 1000000; decide, fun H9 x9 b9 p9 hx9 => ?_⟩
    have k9 := (Kp.ex (K := K) f14).trans ((p2.ex f14).kp b9)
    obtain ⟨ex, dx, okx⟩ : ∃ ex : List Cd, Dt K H9 x9 (cdsD ex) ∧ CdsB 3 3 ex := by
      simp only [List.mem_cons, List.not_mem_nil, or_false] at hx9
      rcases hx9 with rfl | rfl
      · exact ⟨[], (Dt.mk (Evl.st_of (f4 _ _ (f3 _ _ (f2 _ _ upd_same)))) .nil).tk ((p2.ex f14).kp b9).t, by decide, fun x hx => by cases hx⟩
      · refine ⟨[.rs 2 1], (Dt.mk (Evl.st_of (f4 _ _ upd_same)) (.one (Dt.mk (Evl.st_of (f4 _ _ (f3 _ _ upd_same))) (.cons (.str _) (.cons (.int _) (.one (.int _))))))).tk ((p2.ex f14).kp b9).t, by decide, fun x hx => ?_⟩
        rw [List.mem_singleton.mp hx]
        exact ⟨by decide, by decide, by decide, by decide⟩
    refine ⟨_, rfl, p, c, _, 2, rfl, p9, by omega, by decide, by decide, fun H10 u b10 p10 u0 u1 => ⟨(by show 4 ≤ sizeLine; decide), fun T hT => ?_⟩⟩
    obtain ⟨tn, rfl⟩ : ∃ tn : Nat, t = (tn : Int) := ⟨t.toNat, by omega⟩
    obtain ⟨un, rfl⟩ : ∃ un : Nat, u = (un : Int) := ⟨u.toNat, by omega⟩
    have eT := Ex.new (o := .tup [.int (tn : Nat), x9, .int 1, .int (un : Nat)]) hT
    have kT := (p9.kp (K := K) b10).trans (Kp.ex eT)
    have kall := ((k1.trans (p1.kp b2)).trans k9).trans kT
    have hm9 := kall.l _ _ hm
    have lenms : ms.length < 1000 := by
      rw [al.1, List.length_map]
      omega
    have bT := ((((((b0.trans b1).trans b2).trans (.of f14)).trans b9).trans b10).trans (.of eT)).mut (o := .lst (ms ++ [.ref T])) hm0
    refine ⟨m, ms, _, rfl, rfl, hm9, Evl.sz_lt (by omega), ?_⟩
    refine dict _ _ _ (mvs ++ [⟨tn, ex, 1, un⟩]) bT ((p10.ex eT).lst ⟨_, hm9⟩ ncm) (by omega) upd_same ?_ (by rw [List.length_append]; omega) (by rw [List.length_append, List.length_singleton]; omega) fun x hx => ?_
    · rw [List.map_append]
      refine ((al.tk kall.t).app (.one ?_)).tk (.up hm9 noTup_lst)
      exact Dt.mk (Evl.st_of upd_same) (.cons (.int _) (.cons (dx.tk kT.t) (.cons (.int _) (.one (.int _)))))
    · rcases List.mem_append.mp hx with hx | hx
      · exact ok x hx
      · rw [List.mem_singleton.mp hx]
        exact ⟨by show tn < 2; omega, okx, by show (-3 : Int) ≤ 1; decide, by show (1 : Int) ≤ 3; decide, by show un < 2; omega⟩
  · exact dict H1 _ ms mvs (b0.trans b1) p1 (by omega) (k1.l _ _ hm) (al.tk k1.t) l1 (by omega) ok
theorem taking_1 {p c tk : Addr} {n : Nat} {H0 H : Hp} {Q : VK} {ts : List V} (b0 : But p H0 H) (pen : Pen H p c n) (hn : n ≤ 1400000) (ht : H tk = some (.lst ts)) (l1 : 1 ≤ ts.length) (l2 : ts.length ≤ 4) (okt : ∀ x ∈ ts, ∃ t : Int, x = .int t ∧ 1 ≤ t ∧ t ≤ 3)
    (q : ∀ H' v B, But p H0 H' → Pen H' p c (n + 10) → LwB K H' v B → B.OkB 4 13 2 3 3 → Q v H') :
    t__law_taking_book_1 P w K { nx := fun _ H' => Q .non H', rt := Q } [some (.ref p), some (.ref tk), none, none, none] H := by
  refine ⟨(by show 0 ≤ sizeLine; decide), fun m hm => ?_⟩
  have em := Ex.new (o := .lst []) hm
  have ncm : c ≠ m := fun z => pen.cn (by rw [z]; exact hm)
  have ntm : tk ≠ m := ne_of_none ht hm
  have hm0 : H0 m = none := by
    cases q : H0 m with
    | none => rfl
    | some o =>
      by_cases z : m = p
      · exact absurd (by rw [← z]; exact hm) pen.pn
      · rw [b0 _ _ z q] at hm
        cases hm
  refine ⟨_, rfl, tk, rfl, ⟨_, Evl.sq_of (em _ _ ht)⟩, ?_⟩
  refine for_it (walk_list (xs := ts)) (fun i σ H' => (∃ x2 x4, σ = [some (.ref p), some (.ref tk), x2, some (.ref m), x4]) ∧ But p H0 H' ∧ Pen H' p c n ∧ H' tk = some (.lst ts) ∧ ∃ (ms : List V) (mvs : List Mv), H' m = some (.lst ms) ∧ DtAll K H' ms (mvs.map Mv.d) ∧ mvs.length = 2 * i ∧ ∀ x ∈ mvs, x.OkB 2 3 3)
    ⟨⟨none, none, rfl⟩, b0.trans (.of em), pen.ex em, em _ _ ht, [], [], upd_same, .nil, rfl, fun x hx => by cases hx⟩ (fun _ _ _ _ z => Evl.sq_of z.2.2.2.1) ?_ ?_
  · rintro i x σ H1 H1' hi ⟨⟨x2, x4, rfl⟩, b1, p1, t1, ms, mvs, hm1, al1, len1, ok1⟩ ⟨rfl, hx⟩
    obtain ⟨t, rfl, ta, tb⟩ := okt x (List.mem_of_getElem? hx)
    refine ⟨2, rfl, by decide, by decide, ?_⟩
    refine for_it (walk_range (n := 2)) (fun j σ H' => (∃ x4, σ = [some (.ref p), some (.ref tk), some (.int t), some (.ref m), x4]) ∧ But p H0 H' ∧ Pen H' p c n ∧ H' tk = some (.lst ts) ∧ ∃ (ms : List V) (mvs : List Mv), H' m = some (.lst ms) ∧ DtAll K H' ms (mvs.map Mv.d) ∧ mvs.length = 2 * i + j ∧ ∀ x ∈ mvs, x.OkB 2 3 3)
      ⟨⟨_, rfl⟩, b1, p1, t1, ms, mvs, hm1, al1, by omega, ok1⟩ (fun _ _ _ _ _ => trivial) ?_ ?_
    · rintro j y σ H2 H2' hj ⟨⟨x4, rfl⟩, b2, p2, t2, ms, mvs, hm2, al2, len2, ok2⟩ ⟨rfl, hy⟩
      have hy2 : y = .int (j : Nat) := hy.trans (congrArg V.int (Int.zero_add _))
      subst hy2
      refine ⟨_, rfl, .inl ⟨rfl, _, Evl.sq_of hm2⟩, _, rfl, _, rfl, (by show 2 ≤ sizeLine; decide), fun T1 hT1 => ⟨(by show 1 ≤ sizeLine; decide), fun T2 hT2 => ⟨_, rfl, t, rfl, _, rfl, 1, (j : Nat), rfl, rfl, (by show 4 ≤ sizeLine; decide), fun T hT => ?_⟩⟩⟩
      have f1 := Ex.new (o := .tup [.str "least", .int t]) hT1
      have f2 := Ex.new (o := .tup [.ref T1]) hT2
      obtain ⟨un, hu⟩ : ∃ un : Nat, (1 : Int) - (j : Nat) = (un : Int) := ⟨(1 - (j : Int)).toNat, by omega⟩
      have f3 := Ex.new (o := .tup [.int (j : Nat), .ref T2, .int (-t), .int (1 - (j : Nat))]) hT
      have fall := (f1.trans f2).trans f3
      have hm9 := fall _ _ hm2
      have lenms : ms.length < 1000 := by
        rw [al2.1, List.length_map]
        omega
      refine ⟨m, ms, _, rfl, rfl, hm9, Evl.sz_lt (by omega), ⟨_, rfl⟩, (b2.trans (.of fall)).mut hm0, (p2.ex fall).lst ⟨_, hm9⟩ ncm, ?_, ms ++ [.ref T], mvs ++ [⟨j, [.le t], -t, un⟩], upd_same, ?_, by rw [List.length_append, len2, List.length_singleton]; omega, fun x hx => ?_⟩
      · rw [upd_ne ntm]
        exact fall _ _ t2
      · rw [List.map_append]
        refine ((al2.tk (.ex fall)).app (.one ?_)).tk (.up hm9 noTup_lst)
        refine Dt.mk (xs := [.int (j : Nat), .ref T2, .int (-t), .int (1 - (j : Nat))]) (Evl.st_of upd_same) (.cons (.int _) (.cons ?_ (.cons (.int _) (.one (by rw [hu]; exact .int _)))))
        exact Dt.mk (Evl.st_of (f3 _ _ upd_same)) (.one (Dt.mk (Evl.st_of (f3 _ _ (f2 _ _ upd_same))) (.cons (.str _) (.one (.int _)))))
      · rcases List.mem_append.mp hx with hx | hx
        · exact ok2 x hx
        · rw [List.mem_singleton.mp hx]
          refine ⟨hj, ⟨by show 1 ≤ 3; decide, fun y hy => ?_⟩, by show -3 ≤ -t; omega, by show -t ≤ 3; omega, by show un < 2; omega⟩
          rw [List.mem_singleton.mp hy]
          show -3 ≤ t ∧ t ≤ 3
          omega
    · rintro σ H2 ⟨⟨x4, rfl⟩, b2, p2, t2, ms, mvs, hm2, al2, len2, ok2⟩
      exact ⟨⟨_, _, rfl⟩, b2, p2, t2, ms, mvs, hm2, al2, by omega, ok2⟩
  · rintro σ H1 ⟨⟨x2, x4, rfl⟩, b1, p1, t1, ms, mvs, hm1, al1, len1, ok1⟩
    exact taking_3 (P := P) b1 p1 (by omega) hm0 ncm hm1 al1 (by omega) (by omega) ok1 q
end
section
variable {P : Program} {w : World} {K : PySem.W.Frag} {mg : Str → Option Value} (E : Ctx w K mg)
include E
theorem rd__law_taking_book (vs : List V) (H : Hp) (Q : VK) (E0 : XK) (h : sp__law_taking_book w K vs H Q E0) : vs.length = 1 ∧ t__law_taking_book P w K { nx := fun _ H' => Q .non H', rt := Q } (start N__law_taking_book vs) H := by
  obtain ⟨p, c, n, rfl, pen, hn, q⟩ := h
  refine ⟨rfl, (by show 3 ≤ sizeLine; decide), fun L hL => ⟨L, rfl, ⟨_, Evl.sq_of upd_same⟩, fun D hD => ?_⟩⟩
  have eL := Ex.new (o := .lst [.int 1, .int 2, .int 3]) hL
  have penL := pen.ex eL
  have ncD : c ≠ D := fun z => penL.cn (by rw [z]; exact hD)
  have nLD : L ≠ D := fun z => by rw [z, upd_same] at hD <;> cases hD
  have nLp : L ≠ p := fun z => pen.pn (by rw [← z]; exact hL)
  refine lc_run (· = p) (fun a z => by rw [z]; exact penL.pn) hD (walk_list (xs := [.int 1, .int 2, .int 3])) (by decide) (fun i acc H' => Pen H' p c (n + i) ∧ acc.length ≤ i ∧ (∀ x ∈ acc, ∃ t : Int, x = .int t ∧ 1 ≤ t ∧ t ≤ 3) ∧ LstAt H' D) (fun i acc H' e pv => Evl.sq_of (e _ _ nLp upd_same)) ⟨penL.ex (Ex.new hD), Nat.le_refl _, fun x hx => (by cases hx), .up⟩ ?_ ?_ ?_
  · exact fun i acc H' zs e ⟨a1, a2, a3, a4⟩ => ⟨a1.lst a4 ncD, a2, a3, .up⟩
  · rintro i x acc H' H'' kk k0 hi e hl ⟨a1, a2, a3, a4⟩ ⟨rfl, hx⟩ k1 k2
    have hx3 : ∃ t : Int, x = .int t ∧ 1 ≤ t ∧ t ≤ 3 := by
      have := List.mem_of_getElem? hx
      simp only [List.mem_cons, List.not_mem_nil, or_false] at this
      rcases this with rfl | rfl | rfl <;> exact ⟨_, rfl, by decide, by decide⟩
    have hi3 : i < 3 := hi
    refine ⟨rfl, _, rfl, p, c, n + i, 2, rfl, a1, by omega, by decide, by decide, fun H3 z b3 p3 z0 z1 => ⟨rfl, _, rfl, ?_⟩⟩
    have l3 : LstAt H3 D := b3.frm.lst (S := (· = p)) (fun z => penL.pn (by rw [← z]; exact hD)) a4
    refine ite2 (fun _ => ?_) fun _ => ?_
    · refine ⟨_, rfl, k1 _ _ b3.frm ⟨p3.mono (by omega), by rw [List.length_append, List.length_singleton]; omega, fun y hy => ?_, l3⟩⟩
      rcases List.mem_append.mp hy with hy | hy
      · exact a3 y hy
      · rw [List.mem_singleton.mp hy]
        exact hx3
    · exact k2 _ b3.frm ⟨p3.mono (by omega), by omega, a3, l3⟩
  · intro acc H1 e1 hl ⟨a1, a2, a3, a4⟩
    have a2' : acc.length ≤ 3 := a2
    refine ⟨_, rfl, (by show 2 ≤ sizeLine; decide), fun L2 hL2 => ?_⟩
    have e2 := Ex.new (o := .lst [.int 1, .int 2]) hL2
    refine ⟨p, c, L2, _, _, rfl, a1.ex e2, by show n + 3 ≤ 1000000000; omega, .inl (Evl.sq_of upd_same), by simp, by show 2 < 1000000; decide, fun H3 x b3 p3 hx => ⟨(by show 1 ≤ sizeLine; decide), fun L3 hL3 => ?_⟩⟩
    have k3 := (Kp.ex (K := K) e2).trans ((a1.ex e2).kp b3)
    have e4 := Ex.new (o := .lst [x]) hL3
    refine ⟨D, L3, acc, [x], rfl, rfl, e4 _ _ (k3.l _ _ hl), upd_same, Evl.sz_of (by rw [List.length_singleton]; omega), fun tk htk => ?_⟩
    have e5 := Ex.new (o := .lst (acc ++ [x])) htk
    refine taking_1 (P := P) (H0 := H) ((((((But.of eL).trans e1.but).trans (.of e2)).trans b3).trans (.of e4)).trans (.of e5)) ((p3.ex (e4.trans e5)).mono (m := n + 10) (by show n + 3 + 1 ≤ n + 10; omega)) (by omega) upd_same (by rw [List.length_append, List.length_singleton]; omega) (by rw [List.length_append, List.length_singleton]; omega) (fun y hy => ?_) fun H' v B b pn lw ok => q H' v B b (pn.mono (by omega)) lw ok
    rcases List.mem_append.mp hy with hy | hy
    · exact a3 y hy
    · rw [List.mem_singleton.mp hy]
      simp only [List.mem_cons, List.not_mem_nil, or_false] at hx
      rcases hx with rfl | rfl <;> exact ⟨_, rfl, by decide, by decide⟩
theorem rd__law_drawn_book (vs : List V) (H : Hp) (Q : VK) (E0 : XK) (h : sp__law_drawn_book w K vs H Q E0) : vs.length = 1 ∧ t__law_drawn_book P w K { nx := fun _ H' => Q .non H', rt := Q } (start N__law_drawn_book vs) H := by
  obtain ⟨p, c, n, rfl, pen, hn, q⟩ := h
  refine ⟨rfl, _, rfl, p, c, n, 5, rfl, pen, by omega, by decide, by decide, fun H1 i b1 p1 i0 i1 => ⟨_, 2, rfl, rfl, _, rfl, ?_⟩⟩
  refine ite2 (fun _ => ?_) fun _ => ?_
  · exact ⟨_, rfl, p, c, n + 1, rfl, p1, by omega, fun H' v B b pn lw ok => q H' v B (b1.trans b) (pn.mono (by omega)) lw ok⟩
  · exact ⟨_, rfl, p, c, n + 1, rfl, p1, by omega, fun H' v B b pn lw ok => q H' v B (b1.trans b) (pn.mono (by omega)) lw ok⟩
end
theorem ok__law_taking_book {P : Program} {w : World} {K : PySem.W.Frag} {mg : Str → Option Value} {base : Heap} (E : Ctx w K mg) : DefOk P w K mg base "_law_taking_book" [("_law_pen_here" : Str)] 3 (sp__law_taking_book w K) := by
  obtain ⟨fd, F⟩ := E.D__law_taking_book
  exact ⟨_, fd, fn_mk (t := t__law_taking_book P w K) F sc__law_taking_book (rd__law_taking_book E) (fun cdv A outer s H E0 hr => (pss_cons (ps_set (i := 1) sc__law_taking_book.nd rfl (Or.inl rfl) (pe_op op_cat (pe_lc (own := [("_law_take", 2)]) (wi := (iList K (tLst (tCons (tC (.int 1)) (tCons (tC (.int 2)) (tCons (tC (.int 3)) tNil)))))) (g := (gName 2)) (tt := (tTest (tOp rEq (tFn (sp__law_draw w K) (tCons (tVar 0) (tCons (tC (.int 2)) tNil))) (tC (.int 0))))) (te := (tVar 2)) rfl sc__law_taking_book.nd (pi_list (pe_lst (pa_cons pe_int (pa_cons pe_int (pa_cons pe_int pa_nil))))) (blkOk_by (own := [("_law_take", 2)]) (N := N__law_taking_book) (sc := defScope s__law_taking_book) (by decide +kernel)) (fun _ _ _ _ _ => (pg_name (i := 2) sc__law_taking_book.nd rfl (Or.inl rfl))) (fun _ _ _ _ _ => (pts_one (pt_cmpR op_eq (pe_fn (ok__law_draw E) (hr.mono (by decide)) (by rfl) (pa_cons (pv 0) (pa_cons pe_int pa_nil))) pe_int (nomark _)))) (fun _ _ _ _ _ => (pv 2))) (pe_lst (pa_cons (pe_fn (ok__law_pick E) (hr.mono (by decide)) (by rfl) (pa_cons (pv 0) (pa_cons (pe_lst (pa_cons pe_int (pa_cons pe_int pa_nil))) pa_nil))) pa_nil))))
    (pss_cons (ps_set (i := 3) sc__law_taking_book.nd rfl (Or.inl rfl) (pe_lst pa_nil))
    (pss_cons (ps_for PassesOwn.never rfl (pi_list (pv 1)) (pg_name (i := 2) sc__law_taking_book.nd rfl (Or.inl rfl))
    (pss_one (ps_for PassesOwn.never rfl (pi_range1 (by rfl) E.f_range (pa_cons pe_int pa_nil)) (pg_name (i := 4) sc__law_taking_book.nd rfl (Or.inl rfl))
    (pss_one (ps_expr (pe_bm PySem.F.plainAttrs_list PySem.F.slot_list_append PySem.F.type_list_append mt_append (pv 3) (pa_cons (pe_tup (pa_cons (pv 4) (pa_cons (pe_tup (pa_cons (pe_tup (pa_cons pe_str (pa_cons (pv 2) pa_nil))) pa_nil)) (pa_cons (pe_un un_neg (pv 2)) (pa_cons (pe_op op_sub pe_int (pv 4)) pa_nil))))) pa_nil)))))))
    (pss_cons (ps_if (pt_cmpR op_eq (pe_fn (ok__law_draw E) (hr.mono (by decide)) (by rfl) (pa_cons (pv 0) (pa_cons pe_int pa_nil))) pe_int (nomark _))
    (pss_one (ps_expr (pe_bm PySem.F.plainAttrs_list PySem.F.slot_list_append PySem.F.type_list_append mt_append (pv 3) (pa_cons (pe_tup (pa_cons (pe_fn (ok__law_draw E) (hr.mono (by decide)) (by rfl) (pa_cons (pv 0) (pa_cons pe_int pa_nil))) (pa_cons (pe_fn (ok__law_pick E) (hr.mono (by decide)) (by rfl) (pa_cons (pv 0) (pa_cons (pe_lst (pa_cons (pe_tup pa_nil) (pa_cons (pe_tup (pa_cons (pe_tup (pa_cons pe_str (pa_cons pe_int (pa_cons pe_int pa_nil)))) pa_nil)) pa_nil))) pa_nil))) (pa_cons pe_int (pa_cons (pe_fn (ok__law_draw E) (hr.mono (by decide)) (by rfl) (pa_cons (pv 0) (pa_cons pe_int pa_nil))) pa_nil))))) pa_nil))))
    pss_nil)
    (pss_one (ps_ret (pe_disp (pps_cons pe_str (pe_lst (pa_cons pe_int (pa_cons pe_int pa_nil))) (pps_cons pe_str (pv 3) (pps_cons pe_str (pe_lst pa_nil) pps_nil))) (by rfl) (by rfl) (fun z => by cases z) (by decide))))))))), (FunD.bindsN F (fun _ _ _ _ _ _ us hl => match us, hl with | [_], _ => rfl)), E.g__law_taking_book, F.kp⟩
theorem ok__law_drawn_book {P : Program} {w : World} {K : PySem.W.Frag} {mg : Str → Option Value} {base : Heap} (E : Ctx w K mg) : DefOk P w K mg base "_law_drawn_book" [("_law_pen_here" : Str)] 6 (sp__law_drawn_book w K) := by
  obtain ⟨fd, F⟩ := E.D__law_drawn_book
  exact ⟨_, fd, fn_mk (t := t__law_drawn_book P w K) F sc__law_drawn_book (rd__law_drawn_book E) (fun cdv A outer s H E0 hr => (pss_one (ps_ret (pe_ifExp (pt_cmpR op_lt (pe_fn (ok__law_draw E) (hr.mono (by decide)) (by rfl) (pa_cons (pv 0) (pa_cons pe_int pa_nil))) pe_int (nomark _)) (pe_fn (ok__law_taking_book E) (hr.mono (by decide)) (by rfl) (pa_cons (pv 0) pa_nil)) (pe_fn (ok__law_some_book E) (hr.mono (by decide)) (by rfl) (pa_cons (pv 0) pa_nil)))))), (FunD.bindsN F (fun _ _ _ _ _ _ us hl => match us, hl with | [_], _ => rfl)), E.g__law_drawn_book, F.kp⟩
end K28

set_option Elab.async false
set_option linter.all false
set_option maxRecDepth 100000
set_option maxHeartbeats 4000000
namespace K28
open PySem PySem.Spec PyProof.Rows L2
open Evl (Ex)

/-! ## the program's objects, made from the law's -/
section
variable {K : PySem.W.Frag} {H H' : Hp}
/-- an instance, its tuples: a list elsewhere is stored -/
theorem IsMv.updl {D : Addr} {zs : List V} (h : LstAt H D) {v : V} {m : Mv} (q : IsMv K H v m) : IsMv K (upd H D (.lst zs)) v m := by
  obtain ⟨ws, hw⟩ := h
  obtain ⟨a, dx, c, e1, e2, e3⟩ := q
  exact ⟨a, dx, c, e1, by rw [upd_ne (ne_of e2 hw (by intro z; cases z))]; exact e2, e3.tk (.up hw noTup_lst)⟩
theorem IsGw.updl {D : Addr} {zs : List V} (h : LstAt H D) {v : V} {m : Gw} (q : IsGw K H v m) : IsGw K (upd H D (.lst zs)) v m := by
  obtain ⟨ws, hw⟩ := h
  obtain ⟨a, dx, c, e1, e2, e3⟩ := q
  exact ⟨a, dx, c, e1, by rw [upd_ne (ne_of e2 hw (by intro z; cases z))]; exact e2, e3.tk (.up hw noTup_lst)⟩
theorem ds_scal {K : PySem.W.Frag} {H : Hp} {k : Nat} : ∀ (c : Cd) (i : Nat) (d : PyData) (v : V), c.ds[i]? = some d → Dt K H v d → Lo K H k v d := by
  intro c i d v e h
  have mem := List.mem_of_getElem? e
  have sc : (∃ x, d = .int x) ∨ ∃ x, d = .str x := by
    cases c with
    | rs m r =>
      simp only [Cd.ds, List.mem_cons, List.not_mem_nil, or_false] at mem
      rcases mem with rfl | rfl | rfl
      · exact .inr ⟨_, rfl⟩
      · exact .inl ⟨_, rfl⟩
      · exact .inl ⟨_, rfl⟩
    | le k | mo k | eq k | ne k =>
      simp only [Cd.ds, List.mem_cons, List.not_mem_nil, or_false] at mem
      rcases mem with rfl | rfl
      · exact .inr ⟨_, rfl⟩
      · exact .inl ⟨_, rfl⟩
  rcases sc with ⟨x, rfl⟩ | ⟨x, rfl⟩
  · rw [h.intD]
    exact .int _ _
  · rw [h.strD]
    exact .str _ _
theorem ds_len (c : Cd) : c.ds.length ≤ 3 := by
  cases c <;> simp [Cd.ds]
end
/-- a condition as a list (not at D) or as a tuple -/
def CdV (K : PySem.W.Frag) (D : Addr) (H : Hp) (v : V) (c : Cd) : Prop := ∃ b xs, v = .ref b ∧ (SqT K H b xs ∨ (b ≠ D ∧ H b = some (.lst xs))) ∧ DtAll K H xs c.ds
section
variable {K : PySem.W.Frag} {H H' : Hp} {D : Addr}
theorem CdV.updl {zs : List V} (h : LstAt H D) {v : V} {c : Cd} (q : CdV K D H v c) : CdV K D (upd H D (.lst zs)) v c := by
  have t : TupK K H (upd H D (.lst zs)) := .lst h
  obtain ⟨b, xs, e, s, al⟩ := q
  refine ⟨b, xs, e, s.imp (t b xs) (fun z => ⟨z.1, by rw [upd_ne z.1]; exact z.2⟩), al.tk t⟩
theorem CdV.kp (k : Kp K H H') {v : V} {c : Cd} (q : CdV K D H v c) : CdV K D H' v c := by
  obtain ⟨b, xs, e, s, al⟩ := q
  exact ⟨b, xs, e, s.imp (k.t b xs) (fun z => ⟨z.1, k.l _ _ z.2⟩), al.tk k.t⟩
theorem CdV.lo {v : V} {c : Cd} (q : CdV K D H v c) : Lo K H 1 v c.d := by
  obtain ⟨b, xs, rfl, s, al⟩ := q
  have l := ds_len c
  exact .row (s.elim .inr fun z => .inl (Evl.sq_of z.2)) (by rw [al.1]; omega) al.1 fun i v d a e => ds_scal c i d v e (al.2 i v d a e)
theorem Lo.kp (k : Kp K H H') {n : Nat} {v : V} {d : PyData} (hl : ∀ a xs, SqL K H a xs → SqL K H' a xs) (h : Lo K H n v d) : Lo K H' n v d := by
  induction h with
  | int k i => exact .int k i
  | str k x => exact .str k x
  | row h n l _ ih => exact .row (h.elim (fun q => .inl (hl _ _ q)) fun q => .inr (k.t _ _ q)) n l ih
end
def sp__law_made_move (w : World) (K : PySem.W.Frag) : Sp := fun vs H Q _ => ∃ (p c : Addr) (n : Nat) (v : V) (m : Mv), vs = [.ref p, v] ∧ Pen H p c n ∧ n ≤ 100000 ∧ Dt K H v m.d ∧ CdsOk m.cds ∧ ∀ H' x, But p H H' → Pen H' p c (n + 21) → IsMv K H' x m → Q x H'
def sp__law_made_goal (w : World) (K : PySem.W.Frag) : Sp := fun vs H Q _ => ∃ (p c : Addr) (n : Nat) (v : V) (m : Gw), vs = [.ref p, v] ∧ Pen H p c n ∧ n ≤ 100000 ∧ Dt K H v m.d ∧ CdsOk m.cds ∧ ∀ H' x, But p H H' → Pen H' p c (n + 21) → IsGw K H' x m → Q x H'
def sp__law_made_book (w : World) (K : PySem.W.Frag) : Sp := fun vs H Q _ => ∃ (p c : Addr) (n : Nat) (v : V) (B : Bk), vs = [.ref p, v] ∧ Pen H p c n ∧ n ≤ 50000 ∧ LwB K H v B ∧ B.Ok ∧ ∀ H' x, But p H H' → Pen H' p c (n + 3000) → IsBk K H' x B → Q x H'
def N__law_made_move : List Str := ["_law_pen_here", "_law_move", "_law_conditions", "_law_condition"]
theorem sc__law_made_move : FnScope N__law_made_move ["_law_pen_here", "_law_move"] (defScope s__law_made_move) := ⟨rfl, rfl, rfl, by decide +kernel, rfl, by decide +kernel, by decide +kernel⟩
/-- names: 0 _law_pen_here* 1 _law_move 2 _law_conditions 3 _law_condition -/
def t__law_made_move (P : Program) (w : World) (K : PySem.W.Frag) : TS :=
    (tSeq (tAsg (tLc (iTup K (tOp (rIxT K) (tVar 1) (tC (.int 1)))) (gName 3) tYes (tFn (sp__law_listed w K) (tCons (tVar 0) (tCons (tVar 3) tNil))) [3]) (gName 2))
    (tRet (tMake (He.ga K "Move") (sp_Move___init__ w K) [] E0 (tCons (tOp (rIxT K) (tVar 1) (tC (.int 0))) (tCons (tFn (sp__law_listed w K) (tCons (tVar 0) (tCons (tVar 2) tNil))) (tCons (tOp (rIxT K) (tVar 1) (tC (.int 2))) (tCons (tOp (rIxT K) (tVar 1) (tC (.int 3))) tNil)))))))
def N__law_made_goal : List Str := ["_law_pen_here", "_law_goal", "_law_condition"]
theorem sc__law_made_goal : FnScope N__law_made_goal ["_law_pen_here", "_law_goal"] (defScope s__law_made_goal) := ⟨rfl, rfl, rfl, by decide +kernel, rfl, by decide +kernel, by decide +kernel⟩
/-- names: 0 _law_pen_here* 1 _law_goal 2 _law_condition -/
def t__law_made_goal (P : Program) (w : World) (K : PySem.W.Frag) : TS :=
    (tRet (tMake (He.ga K "Goal") (sp_Goal___init__ w K) [] E0 (tCons (tOp (rIxT K) (tVar 1) (tC (.int 0))) (tCons (tFn (sp__law_listed w K) (tCons (tVar 0) (tCons (tLc (iTup K (tOp (rIxT K) (tVar 1) (tC (.int 1)))) (gName 2) tYes (tFn (sp__law_listed w K) (tCons (tVar 0) (tCons (tVar 2) tNil))) [2]) tNil))) tNil))))
def N__law_made_book : List Str := ["_law_pen_here", "_law_book", "_law_moves", "_law_move", "_law_goals", "_law_goal"]
theorem sc__law_made_book : FnScope N__law_made_book ["_law_pen_here", "_law_book"] (defScope s__law_made_book) := ⟨rfl, rfl, rfl, by decide +kernel, rfl, by decide +kernel, by decide +kernel⟩
/-- names: 0 _law_pen_here* 1 _law_book 2 _law_moves 3 _law_move 4 _law_goals 5 _law_goal -/
def t__law_made_book (P : Program) (w : World) (K : PySem.W.Frag) : TS :=
    (tSeq (tAsg (tLc (iList K (tDGet (tVar 1) (tC (.str "moves")))) (gName 3) tYes (tFn (sp__law_made_move w K) (tCons (tVar 0) (tCons (tVar 3) tNil))) [3]) (gName 2))
    (tSeq (tAsg (tLc (iList K (tDGet (tVar 1) (tC (.str "goals")))) (gName 5) tYes (tFn (sp__law_made_goal w K) (tCons (tVar 0) (tCons (tVar 5) tNil))) [5]) (gName 4))
    (tRet (tMake (He.ga K "Book") (sp_Book___init__ w K) [] E0 (tCons (tFn (sp__law_listed w K) (tCons (tVar 0) (tCons (tDGet (tVar 1) (tC (.str "sides"))) tNil))) (tCons (tFn (sp__law_listed w K) (tCons (tVar 0) (tCons (tVar 2) tNil))) (tCons (tFn (sp__law_listed w K) (tCons (tVar 0) (tCons (tVar 4) tNil))) tNil)))))))
theorem DtAll.four {K : PySem.W.Frag} {H : Hp} {xs : List V} {d e f g : PyData} (h : DtAll K H xs [d, e, f, g]) : ∃ u v w x, xs = [u, v, w, x] ∧ Dt K H u d ∧ Dt K H v e ∧ Dt K H w f ∧ Dt K H x g := by
  obtain ⟨l, h⟩ := h
  match xs, l with
  | [u, v, w, x], _ => exact ⟨u, v, w, x, rfl, h 0 _ _ rfl rfl, h 1 _ _ rfl rfl, h 2 _ _ rfl rfl, h 3 _ _ rfl rfl⟩
theorem mv_tup {K : PySem.W.Frag} {H : Hp} {v : V} {m : Mv} (h : Dt K H v m.d) : ∃ a cv, v = .ref a ∧ SqT K H a [.int (m.place : Nat), cv, .int m.shift, .int (m.target : Nat)] ∧ Dt K H cv (cdsD m.cds) := by
  obtain ⟨a, xs, rfl, s, t⟩ := h.tupD
  obtain ⟨u, v, w, x, rfl, d1, d2, d3, d4⟩ := t.four
  rw [d1.intD, d3.intD, d4.intD] at s
  exact ⟨a, v, rfl, s, d2⟩
theorem gw_tup {K : PySem.W.Frag} {H : Hp} {v : V} {m : Gw} (h : Dt K H v m.d) : ∃ a cv, v = .ref a ∧ SqT K H a [.int (m.place : Nat), cv] ∧ Dt K H cv (cdsD m.cds) := by
  obtain ⟨a, xs, rfl, s, t⟩ := h.tupD
  obtain ⟨u, v, rfl, d1, d2⟩ := t.two
  rw [d1.intD] at s
  exact ⟨a, v, rfl, s, d2⟩
section
variable {P : Program} {w : World} {K : PySem.W.Frag} {mg : Str → Option Value} (E : Ctx w K mg)
include E
theorem rd__law_made_move (vs : List V) (H : Hp) (Q : VK) (E0 : XK) (h : sp__law_made_move w K vs H Q E0) : vs.length = 2 ∧ t__law_made_move P w K { nx := fun _ H' => Q .non H', rt := Q } (start N__law_made_move vs) H := by
  obtain ⟨p, c, n, v, m, rfl, pen, hn, dt, ok, q⟩ := h
  obtain ⟨a, cv, rfl, sm, dcv⟩ := mv_tup dt
  obtain ⟨ca, cx, rfl, sc, ac⟩ := dcv.tupD
  have lc : cx.length = m.cds.length := by rw [ac.1, List.length_map]
  have ok1 := ok.1
  refine ⟨rfl, _, rfl, a, _, 1, _, rfl, rfl, sm, rfl, ca, rfl, ⟨_, sc⟩, fun D hD => ?_⟩
  have ncD : c ≠ D := fun z => pen.cn (by rw [z]; exact hD)
  refine lc_map (· = p) (fun a z => by rw [z]; exact pen.pn) hD (walk_tup (xs := cx)) (by omega) (fun i v H' => ∃ cd, m.cds[i]? = some cd ∧ CdV K D H' v cd) (fun i H' => Pen H' p c (n + i)) (fun i H' e pn => (pen.sq e.but).t _ _ sc) (pen.ex (Ex.new hD)) ?_ (fun i H' zs hl e pn => pn.lst hl ncD) ?_ ?_ ?_
  · exact fun i v H' zs hl e ⟨cd, q1, q2⟩ => ⟨cd, q1, q2.updl hl⟩
  · exact fun i v H' H'' j hl e e2 pn _ ⟨cd, q1, q2⟩ => ⟨cd, q1, q2.kp (pn.kp e2.but)⟩
  · rintro i x H1 H1' kk hi hl e pn ⟨rfl, hx⟩ k1
    have hc0 : m.cds[i]? = some (m.cds[i]'(by omega)) := List.getElem?_eq_getElem (by omega)
    generalize m.cds[i]'(by omega) = cd at hc0
    have dx := (ac.2 i x _ hx (by rw [List.getElem?_map, hc0]; rfl)).tk (pen.sq (K := K) e.but).t
    obtain ⟨xa, xs, rfl, sx, ax⟩ := dx.tupD
    obtain ⟨ws, hw⟩ := hl
    refine ⟨rfl, _, rfl, _, rfl, p, c, xa, n + i, xs, rfl, pn, by omega, .inr sx, fun H2 b b2 p2 s2 => k1 _ H2 b2.frm ⟨cd, hc0, b, xs, rfl, s2.imp id (fun z => ⟨fun y => ?_, z.2⟩), ax.tk (pn.kp (K := K) b2).t⟩ p2⟩
    have z1 := z.1
    rw [y, hw] at z1
    cases z1
  · intro acc H1 e1 hl len z pn
    have k1 := pen.kp (K := K) e1.but
    refine ⟨_, rfl, a, _, 0, _, rfl, rfl, k1.t _ _ sm, rfl, ?_⟩
    refine ⟨_, rfl, _, rfl, p, c, D, _, acc, rfl, pn, by omega, .inl (Evl.sq_of hl), fun H2 b b2 p2 s2 => ?_⟩
    have k2 := pn.kp (K := K) b2
    have sm2 := k2.t _ _ (k1.t _ _ sm)
    refine ⟨_, rfl, a, _, 2, _, rfl, rfl, sm2, rfl, _, rfl, a, _, 3, _, rfl, rfl, sm2, rfl, fun x dx hx hdx nxd => ?_⟩
    obtain ⟨e3, back⟩ := new_ex (C := He.ga K "Move") hx hdx nxd
    have lo2 : Lo K H2 2 (.ref b) (cdsD m.cds) := by
      refine .row (s2.elim .inr fun z => .inl (Evl.sq_of z.2)) (by omega) (by rw [List.length_map]; omega) fun i v d hv hd => ?_
      obtain ⟨cd, q1, q2⟩ := z i v hv
      rw [List.getElem?_map, q1] at hd
      cases hd
      exact (q2.kp k2).lo
    refine ⟨x, dx, _, m, rfl, upd_same, lo2.ex e3, fun H3 b3 im => ⟨rfl, q H3 _ ((e1.but.trans b2).trans (.of (back H3 b3))) ?_ im⟩⟩
    exact (p2.ex (back H3 b3)).mono (by omega)
theorem rd__law_made_goal (vs : List V) (H : Hp) (Q : VK) (E0 : XK) (h : sp__law_made_goal w K vs H Q E0) : vs.length = 2 ∧ t__law_made_goal P w K { nx := fun _ H' => Q .non H', rt := Q } (start N__law_made_goal vs) H := by
  obtain ⟨p, c, n, v, m, rfl, pen, hn, dt, ok, q⟩ := h
  obtain ⟨a, cv, rfl, sm, dcv⟩ := gw_tup dt
  obtain ⟨ca, cx, rfl, sc, ac⟩ := dcv.tupD
  have lc : cx.length = m.cds.length := by rw [ac.1, List.length_map]
  have ok1 := ok.1
  refine ⟨rfl, _, rfl, a, _, 0, _, rfl, rfl, sm, rfl, _, rfl, _, rfl, a, _, 1, _, rfl, rfl, sm, rfl, ca, rfl, ⟨_, sc⟩, fun D hD => ?_⟩
  have ncD : c ≠ D := fun z => pen.cn (by rw [z]; exact hD)
  refine lc_map (· = p) (fun a z => by rw [z]; exact pen.pn) hD (walk_tup (xs := cx)) (by omega) (fun i v H' => ∃ cd, m.cds[i]? = some cd ∧ CdV K D H' v cd) (fun i H' => Pen H' p c (n + i)) (fun i H' e pn => (pen.sq e.but).t _ _ sc) (pen.ex (Ex.new hD)) ?_ (fun i H' zs hl e pn => pn.lst hl ncD) ?_ ?_ ?_
  · exact fun i v H' zs hl e ⟨cd, q1, q2⟩ => ⟨cd, q1, q2.updl hl⟩
  · exact fun i v H' H'' j hl e e2 pn _ ⟨cd, q1, q2⟩ => ⟨cd, q1, q2.kp (pn.kp e2.but)⟩
  · rintro i x H1 H1' kk hi hl e pn ⟨rfl, hx⟩ k1
    have hc0 : m.cds[i]? = some (m.cds[i]'(by omega)) := List.getElem?_eq_getElem (by omega)
    generalize m.cds[i]'(by omega) = cd at hc0
    have dx := (ac.2 i x _ hx (by rw [List.getElem?_map, hc0]; rfl)).tk (pen.sq (K := K) e.but).t
    obtain ⟨xa, xs, rfl, sx, ax⟩ := dx.tupD
    obtain ⟨ws, hw⟩ := hl
    refine ⟨rfl, _, rfl, _, rfl, p, c, xa, n + i, xs, rfl, pn, by omega, .inr sx, fun H2 b b2 p2 s2 => k1 _ H2 b2.frm ⟨cd, hc0, b, xs, rfl, s2.imp id (fun z => ⟨fun y => ?_, z.2⟩), ax.tk (pn.kp (K := K) b2).t⟩ p2⟩
    have z1 := z.1
    rw [y, hw] at z1
    cases z1
  · intro acc H1 e1 hl len z pn
    refine ⟨p, c, D, _, acc, rfl, pn, by omega, .inl (Evl.sq_of hl), fun H2 b b2 p2 s2 => ?_⟩
    have k2 := pn.kp (K := K) b2
    intro x dx hx hdx nxd
    obtain ⟨e3, back⟩ := new_ex (C := He.ga K "Goal") hx hdx nxd
    have lo2 : Lo K H2 2 (.ref b) (cdsD m.cds) := by
      refine .row (s2.elim .inr fun z => .inl (Evl.sq_of z.2)) (by omega) (by rw [List.length_map]; omega) fun i v d hv hd => ?_
      obtain ⟨cd, q1, q2⟩ := z i v hv
      rw [List.getElem?_map, q1] at hd
      cases hd
      exact (q2.kp k2).lo
    refine ⟨x, dx, _, m, rfl, upd_same, lo2.ex e3, fun H3 b3 im => ⟨rfl, q H3 _ ((e1.but.trans b2).trans (.of (back H3 b3))) ?_ im⟩⟩
    exact (p2.ex (back H3 b3)).mono (by omega)
end
theorem ok__law_made_move {P : Program} {w : World} {K : PySem.W.Frag} {mg : Str → Option Value} {base : Heap} (E : Ctx w K mg) : DefOk P w K mg base "_law_made_move" [("_law_pen_here" : Str), ("_law_move" : Str)] 8 (sp__law_made_move w K) := by
  obtain ⟨fd, F⟩ := E.D__law_made_move
  exact ⟨_, fd, fn_mk (t := t__law_made_move P w K) F sc__law_made_move (rd__law_made_move E) (fun cdv A outer s H E0 hr => (pss_cons (ps_setLc (i := 2) (own := [("_law_condition", 3)]) (wi := (iTup K (tOp (rIxT K) (tVar 1) (tC (.int 1))))) (g := (gName 3)) (tt := tYes) (te := (tFn (sp__law_listed w K) (tCons (tVar 0) (tCons (tVar 3) tNil)))) rfl sc__law_made_move.nd rfl rfl (sw_true rfl rfl rfl (by decide +kernel)) (pi_tup (pe_ix ix_tup (pv 1) pe_int (fun _ _ => rfl))) (blkOk_by (own := [("_law_condition", 3)]) (N := N__law_made_move) (sc := defScope s__law_made_move) (by decide +kernel)) (fun _ _ _ _ _ => (pg_name (i := 3) sc__law_made_move.nd rfl (Or.inl rfl))) (fun _ _ _ _ _ => pts_nil) (fun _ _ _ _ _ => (pe_fn (ok__law_listed E) (hr.mono (by decide)) (by rfl) (pa_cons (pv 0) (pa_cons (pv 3) pa_nil)))))
    (pss_one (ps_ret (pe_new (mk_Move E) (hr.mono (by decide)) (by rfl) (pa_cons (pe_ix ix_tup (pv 1) pe_int (fun _ _ => rfl)) (pa_cons (pe_fn (ok__law_listed E) (hr.mono (by decide)) (by rfl) (pa_cons (pv 0) (pa_cons (pv 2) pa_nil))) (pa_cons (pe_ix ix_tup (pv 1) pe_int (fun _ _ => rfl)) (pa_cons (pe_ix ix_tup (pv 1) pe_int (fun _ _ => rfl)) pa_nil))))))))), (FunD.bindsN F (fun _ _ _ _ _ _ us hl => match us, hl with | [_, _], _ => rfl)), E.g__law_made_move, F.kp⟩
theorem ok__law_made_goal {P : Program} {w : World} {K : PySem.W.Frag} {mg : Str → Option Value} {base : Heap} (E : Ctx w K mg) : DefOk P w K mg base "_law_made_goal" [("_law_pen_here" : Str), ("_law_goal" : Str)] 8 (sp__law_made_goal w K) := by
  obtain ⟨fd, F⟩ := E.D__law_made_goal
  exact ⟨_, fd, fn_mk (t := t__law_made_goal P w K) F sc__law_made_goal (rd__law_made_goal E) (fun cdv A outer s H E0 hr => (pss_one (ps_ret (pe_new (mk_Goal E) (hr.mono (by decide)) (by rfl) (pa_cons (pe_ix ix_tup (pv 1) pe_int (fun _ _ => rfl)) (pa_cons (pe_fn (ok__law_listed E) (hr.mono (by decide)) (by rfl) (pa_cons (pv 0) (pa_cons (pe_lc (own := [("_law_condition", 2)]) (wi := (iTup K (tOp (rIxT K) (tVar 1) (tC (.int 1))))) (g := (gName 2)) (tt := tYes) (te := (tFn (sp__law_listed w K) (tCons (tVar 0) (tCons (tVar 2) tNil)))) rfl sc__law_made_goal.nd (pi_tup (pe_ix ix_tup (pv 1) pe_int (fun _ _ => rfl))) (blkOk_by (own := [("_law_condition", 2)]) (N := N__law_made_goal) (sc := defScope s__law_made_goal) (by decide +kernel)) (fun _ _ _ _ _ => (pg_name (i := 2) sc__law_made_goal.nd rfl (Or.inl rfl))) (fun _ _ _ _ _ => pts_nil) (fun _ _ _ _ _ => (pe_fn (ok__law_listed E) (hr.mono (by decide)) (by rfl) (pa_cons (pv 0) (pa_cons (pv 2) pa_nil))))) pa_nil))) pa_nil)))))), (FunD.bindsN F (fun _ _ _ _ _ _ us hl => match us, hl with | [_, _], _ => rfl)), E.g__law_made_goal, F.kp⟩
section
variable {P : Program} {w : World} {K : PySem.W.Frag} {mg : Str → Option Value} (E : Ctx w K mg)
include E
theorem rd__law_made_book (vs : List V) (H : Hp) (Q : VK) (E0 : XK) (h : sp__law_made_book w K vs H Q E0) : vs.length = 2 ∧ t__law_made_book P w K { nx := fun _ H' => Q .non H', rt := Q } (start N__law_made_book vs) H := by
  obtain ⟨p, c, n, v, B, rfl, pen, hn, ⟨a, s, m, g, ms, gs, rfl, lw⟩, ok, q⟩ := h
  have lm : ms.length = B.moves.length := by rw [lw.am.1, List.length_map]
  have lg : gs.length = B.goals.length := by rw [lw.ag.1, List.length_map]
  have m1 := ok.m1
  have g1 := ok.g1
  refine ⟨rfl, _, rfl, a, _, rfl, lw.gm, m, rfl, ⟨_, Evl.sq_of lw.m⟩, fun D hD => ?_⟩
  have ncD : c ≠ D := fun z => pen.cn (by rw [z]; exact hD)
  refine lc_map (· = p) (fun a z => by rw [z]; exact pen.pn) hD (walk_list (xs := ms)) (by omega) (fun i v H' => ∃ y, B.moves[i]? = some y ∧ IsMv K H' v y) (fun i H' => Pen H' p c (n + 21 * i)) (fun i H' e pn => (pen.sq e.but).l _ _ (Evl.sq_of lw.m)) (pen.ex (Ex.new hD)) ?_ (fun i H' zs hl e pn => pn.lst hl ncD) ?_ ?_ ?_
  · exact fun i v H' zs hl e ⟨cd, q1, q2⟩ => ⟨cd, q1, q2.updl hl⟩
  · exact fun i v H' H'' j hl e e2 pn _ ⟨cd, q1, q2⟩ => ⟨cd, q1, q2.kp (pn.kp e2.but)⟩
  · rintro i x H1 H1' kk hi hl e pn ⟨rfl, hx⟩ k1
    have hc0 : B.moves[i]? = some (B.moves[i]'(by omega)) := List.getElem?_eq_getElem (by omega)
    generalize B.moves[i]'(by omega) = y at hc0
    have dx := (lw.am.2 i x _ hx (by rw [List.getElem?_map, hc0]; rfl)).tk (pen.sq (K := K) e.but).t
    exact ⟨rfl, _, rfl, _, rfl, p, c, n + 21 * i, x, y, rfl, pn, by omega, dx, (ok.m y (List.mem_of_getElem? hc0)).c, fun H2 z b2 p2 im => k1 _ H2 b2.frm ⟨y, hc0, im⟩ (p2.mono (by omega))⟩
  · intro accM H1 e1 hlM lenM zM pn1
    have k1 := pen.kp (K := K) e1.but
    have lw1 := lw.but pen e1.but
    refine ⟨_, rfl, a, _, rfl, lw1.gg, g, rfl, ⟨_, Evl.sq_of lw1.g⟩, fun D2 hD2 => ?_⟩
    have ncD2 : c ≠ D2 := fun z => pn1.cn (by rw [z]; exact hD2)
    refine lc_map (· = p) (fun a z => by rw [z]; exact pn1.pn) hD2 (walk_list (xs := gs)) (by omega) (fun i v H' => ∃ y, B.goals[i]? = some y ∧ IsGw K H' v y) (fun i H' => Pen H' p c (n + 21 * ms.length + 21 * i)) (fun i H' e pn => (pn1.sq e.but).l _ _ (Evl.sq_of lw1.g)) (pn1.ex (Ex.new hD2)) ?_ (fun i H' zs hl e pn => pn.lst hl ncD2) ?_ ?_ ?_
    · exact fun i v H' zs hl e ⟨cd, q1, q2⟩ => ⟨cd, q1, q2.updl hl⟩
    · exact fun i v H' H'' j hl e e2 pn _ ⟨cd, q1, q2⟩ => ⟨cd, q1, q2.kp (pn.kp e2.but)⟩
    · rintro i x H2 H2' kk hi hl e pn ⟨rfl, hx⟩ k2
      have hc0 : B.goals[i]? = some (B.goals[i]'(by omega)) := List.getElem?_eq_getElem (by omega)
      generalize B.goals[i]'(by omega) = y at hc0
      have dx := (lw1.ag.2 i x _ hx (by rw [List.getElem?_map, hc0]; rfl)).tk (pn1.sq (K := K) e.but).t
      exact ⟨rfl, _, rfl, _, rfl, p, c, _, x, y, rfl, pn, by omega, dx, (ok.g y (List.mem_of_getElem? hc0)).c, fun H3 z b3 p3 im => k2 _ H3 b3.frm ⟨y, hc0, im⟩ (p3.mono (by omega))⟩
    · intro accG H2 e2 hlG lenG zG pn2
      have k2 := pn1.kp (K := K) e2.but
      have lw2 := lw1.but pn1 e2.but
      refine ⟨_, rfl, _, rfl, a, _, rfl, lw2.gs, p, c, s, _, _, rfl, pn2, by omega, .inl (Evl.sq_of lw2.s), fun H3 sb b3 p3 s3 => ?_⟩
      have k3 := pn2.kp (K := K) b3
      refine ⟨_, rfl, _, rfl, p, c, D, _, _, rfl, p3, by omega, .inl (Evl.sq_of (k3.l _ _ (k2.l _ _ hlM))), fun H4 mb b4 p4 s4 => ?_⟩
      have k4 := p3.kp (K := K) b4
      refine ⟨_, rfl, _, rfl, p, c, D2, _, _, rfl, p4, by omega, .inl (Evl.sq_of (k4.l _ _ (k3.l _ _ hlG))), fun H5 gb b5 p5 s5 => ?_⟩
      have k5 := p4.kp (K := K) b5
      intro x dx hx hdx nxd
      obtain ⟨e6, back⟩ := new_ex (C := He.ga K "Book") hx hdx nxd
      have t1 : Sq2 K H3 sb (B.sides.map V.int) := s3.elim .inr fun z => .inl (Evl.sq_of z.2)
      have t2 : Sq2 K H4 mb accM := s4.elim .inr fun z => .inl (Evl.sq_of z.2)
      have t3 : Sq2 K H5 gb accG := s5.elim .inr fun z => .inl (Evl.sq_of z.2)
      have alM : Al (IsMv K H5) accM B.moves := ⟨by omega, fun i v y hv hy => by
        obtain ⟨y2, q1, q2⟩ := zM i v hv
        rw [hy] at q1
        cases q1
        exact (((q2.kp k2).kp k3).kp k4).kp k5⟩
      have alG : Al (IsGw K H5) accG B.goals := ⟨by omega, fun i v y hv hy => by
        obtain ⟨y2, q1, q2⟩ := zG i v hv
        rw [hy] at q1
        cases q1
        exact ((q2.kp k3).kp k4).kp k5⟩
      refine ⟨x, dx, sb, mb, gb, accM, accG, B, rfl, upd_same, ?_, ?_, t3.ex e6, alM.mono fun _ _ z => z.ex e6, alG.mono fun _ _ z => z.ex e6, ok, fun H7 b7 ib => ⟨rfl, q H7 _ (((((e1.but.trans e2.but).trans b3).trans b4).trans b5).trans (.of (back H7 b7))) ?_ ib⟩⟩
      · exact ((t1.sq (p3.sq b4)).sq (p4.sq b5)).ex e6
      · exact (t2.sq (p4.sq b5)).ex e6
      · exact (p5.ex (back H7 b7)).mono (by omega)
end
theorem ok__law_made_book {P : Program} {w : World} {K : PySem.W.Frag} {mg : Str → Option Value} {base : Heap} (E : Ctx w K mg) : DefOk P w K mg base "_law_made_book" [("_law_pen_here" : Str), ("_law_book" : Str)] 9 (sp__law_made_book w K) := by
  obtain ⟨fd, F⟩ := E.D__law_made_book
  exact ⟨_, fd, fn_mk (t := t__law_made_book P w K) F sc__law_made_book (rd__law_made_book E) (fun cdv A outer s H E0 hr => (pss_cons (ps_setLc (i := 2) (own := [("_law_move", 3)]) (wi := (iList K (tDGet (tVar 1) (tC (.str "moves"))))) (g := (gName 3)) (tt := tYes) (te := (tFn (sp__law_made_move w K) (tCons (tVar 0) (tCons (tVar 3) tNil)))) rfl sc__law_made_book.nd rfl rfl (sw_true rfl rfl rfl (by decide +kernel)) (pi_list (pe_dget (hu_of hr) (pv 1) pe_str (fun _ _ => rfl))) (blkOk_by (own := [("_law_move", 3)]) (N := N__law_made_book) (sc := defScope s__law_made_book) (by decide +kernel)) (fun _ _ _ _ _ => (pg_name (i := 3) sc__law_made_book.nd rfl (Or.inl rfl))) (fun _ _ _ _ _ => pts_nil) (fun _ _ _ _ _ => (pe_fn (ok__law_made_move E) (hr.mono (by decide)) (by rfl) (pa_cons (pv 0) (pa_cons (pv 3) pa_nil)))))
    (pss_cons (ps_setLc (i := 4) (own := [("_law_goal", 5)]) (wi := (iList K (tDGet (tVar 1) (tC (.str "goals"))))) (g := (gName 5)) (tt := tYes) (te := (tFn (sp__law_made_goal w K) (tCons (tVar 0) (tCons (tVar 5) tNil)))) rfl sc__law_made_book.nd rfl rfl (sw_true rfl rfl rfl (by decide +kernel)) (pi_list (pe_dget (hu_of hr) (pv 1) pe_str (fun _ _ => rfl))) (blkOk_by (own := [("_law_goal", 5)]) (N := N__law_made_book) (sc := defScope s__law_made_book) (by decide +kernel)) (fun _ _ _ _ _ => (pg_name (i := 5) sc__law_made_book.nd rfl (Or.inl rfl))) (fun _ _ _ _ _ => pts_nil) (fun _ _ _ _ _ => (pe_fn (ok__law_made_goal E) (hr.mono (by decide)) (by rfl) (pa_cons (pv 0) (pa_cons (pv 5) pa_nil)))))
    (pss_one (ps_ret (pe_new (mk_Book E) (hr.mono (by decide)) (by rfl) (pa_cons (pe_fn (ok__law_listed E) (hr.mono (by decide)) (by rfl) (pa_cons (pv 0) (pa_cons (pe_dget (hu_of hr) (pv 1) pe_str (fun _ _ => rfl)) pa_nil))) (pa_cons (pe_fn (ok__law_listed E) (hr.mono (by decide)) (by rfl) (pa_cons (pv 0) (pa_cons (pv 2) pa_nil))) (pa_cons (pe_fn (ok__law_listed E) (hr.mono (by decide)) (by rfl) (pa_cons (pv 0) (pa_cons (pv 4) pa_nil))) pa_nil))))))))), (FunD.bindsN F (fun _ _ _ _ _ _ us hl => match us, hl with | [_, _], _ => rfl)), E.g__law_made_book, F.kp⟩
end K28

set_option Elab.async false
set_option linter.all false
set_option maxRecDepth 100000
set_option maxHeartbeats 4000000
namespace K28
open PySem PySem.Spec PyProof.Rows L2
open Evl (Ex)

theorem Al.of_dt {K : PySem.W.Frag} {H : Hp} {α : Type} {g : α → PyData} {xs : List V} {ys : List α} (h : DtAll K H xs (ys.map g)) : Al (fun v y => Dt K H v (g y)) xs ys :=
  ⟨by rw [h.1, List.length_map], fun i v y a b => h.2 i v (g y) a (by rw [List.getElem?_map, b]; rfl)⟩
theorem Al.to_dt {K : PySem.W.Frag} {H : Hp} {α : Type} {g : α → PyData} {xs : List V} {ys : List α} (h : Al (fun v y => Dt K H v (g y)) xs ys) : DtAll K H xs (ys.map g) :=
  (Al.dt (C := fun _ => True) (h.mono fun _ _ q => ⟨q, trivial⟩)).1
theorem al_perm {α : Type} {R : V → α → Prop} {vs ws : List V} (p : ws.Perm vs) : ∀ {ys : List α}, Al R vs ys → ∃ zs, zs.Perm ys ∧ Al R ws zs := by
  have main : ∀ {vs ws : List V}, vs.Perm ws → ∀ {ys : List α}, Al R vs ys → ∃ zs, ys.Perm zs ∧ Al R ws zs := by
    intro vs ws p
    induction p with
    | nil =>
      intro ys h
      have : ys = [] := List.eq_nil_of_length_eq_zero h.1.symm
      subst this
      exact ⟨[], .nil, .nil⟩
    | cons x _ ih =>
      intro ys h
      match ys, h with
      | [], h => exact absurd h.1 (by simp)
      | y :: ys, h =>
        obtain ⟨zs, q, r⟩ := ih (ys := ys) ⟨by have := h.1; simpa using this, fun i v y a b => h.2 (i + 1) v y a b⟩
        exact ⟨y :: zs, q.cons _, .cons (h.2 0 x y rfl rfl) r⟩
    | swap x y l =>
      intro ys h
      match ys, h with
      | [], h => exact absurd h.1 (by simp)
      | [_], h => exact absurd h.1 (by simp)
      | a :: b :: ys, h => exact ⟨b :: a :: ys, List.Perm.swap _ _ _, .cons (h.2 1 x b rfl rfl) (.cons (h.2 0 y a rfl rfl) ⟨by have := h.1; simpa using this, fun i v y p q => h.2 (i + 2) v y p q⟩)⟩
    | trans _ _ i1 i2 =>
      intro ys h
      obtain ⟨es, q, r⟩ := i1 h
      obtain ⟨fs, q', r'⟩ := i2 r
      exact ⟨fs, q.trans q', r'⟩
  intro ys h
  obtain ⟨zs, q, r⟩ := main p.symm h
  exact ⟨zs, q.symm, r⟩
def sp__law_shuffled (w : World) (K : PySem.W.Frag) : Sp := fun vs H Q _ => ∃ (p c a : Addr) (n : Nat) (xs : List V), vs = [.ref p, .ref a] ∧ Pen H p c n ∧ n ≤ 1000000 ∧ Sq2 K H a xs ∧ xs.length ≤ 500 ∧
  ∀ H' l ys, But p H H' → Pen H' p c (n + xs.length) → H l = none → H' l = some (.lst ys) → ys.Perm xs → Q (.ref l) H'
def sp__law_rewritten (w : World) (K : PySem.W.Frag) : Sp := fun vs H Q _ => ∃ (p c : Addr) (n : Nat) (v : V) (cs : List Cd), vs = [.ref p, v] ∧ Pen H p c n ∧ n ≤ 500000 ∧ Dt K H v (cdsD cs) ∧ CdsB 3 3 cs ∧
  ∀ H' x ds, But p H H' → Pen H' p c (n + 9) → Dt K H' x (cdsD ds) → CdsB 5 6 ds → Q x H'
def N__law_shuffled : List Str := ["_law_pen_here", "_law_row", "_law_left", "_law_found", "_law_lap"]
theorem sc__law_shuffled : FnScope N__law_shuffled ["_law_pen_here", "_law_row"] (defScope s__law_shuffled) := ⟨rfl, rfl, rfl, by decide +kernel, rfl, by decide +kernel, by decide +kernel⟩
/-- names: 0 _law_pen_here 1 _law_row 2 _law_left 3 _law_found 4 _law_lap -/
def t__law_shuffled (P : Program) (w : World) (K : PySem.W.Frag) : TS :=
    (tSeq (tPar 2 3 (tCons (tCB (rListOf K) (tCons (tVar 1) tNil)) (tCons (tLst tNil) tNil)))
    (tSeq (tFor (iRng1 (tCons (tCB (rLenX K) (tCons (tVar 1) tNil)) tNil)) (gName 4)
    (tDrop (tBM K "list" rAppend (tVar 3) (tCons (tBM K "list" rPopAt (tVar 2) (tCons (tFn (sp__law_draw w K) (tCons (tVar 0) (tCons (tCB (rLenX K) (tCons (tVar 2) tNil)) tNil))) tNil)) tNil))))
    (tRet (tVar 3))))
def N__law_rewritten : List Str := ["_law_pen_here", "_law_conditions", "_law_found", "_law_condition", "_law_word", "_law_k", "_law_way"]
theorem sc__law_rewritten : FnScope N__law_rewritten ["_law_pen_here", "_law_conditions"] (defScope s__law_rewritten) := ⟨rfl, rfl, rfl, by decide +kernel, rfl, by decide +kernel, by decide +kernel⟩
/-- names: 0 _law_pen_here 1 _law_conditions 2 _law_found 3 _law_condition 4 _law_word 5 _law_k 6 _law_way -/
def t__law_rewritten (P : Program) (w : World) (K : PySem.W.Frag) : TS :=
    (tSeq (tAsg (tLst tNil) (gName 2))
    (tSeq (tFor (iTup K (tVar 1)) (gName 3)
    (tSeq (tPar3 4 5 6 (tCons (tOp (rIxT K) (tVar 3) (tC (.int 0))) (tCons (tOp (rIxT K) (tVar 3) (tC (.int 1))) (tCons (tFn (sp__law_draw w K) (tCons (tVar 0) (tCons (tC (.int 3)) tNil))) tNil))))
    (tIfS (tAnd (tTest (tOp rEq (tVar 4) (tC (.str "is")))) (tTest (tOp rEq (tVar 6) (tC (.int 0)))))
    (tAsg (tOp rCat (tVar 2) (tLst (tCons (tTup (tCons (tC (.str "least")) (tCons (tVar 5) tNil))) (tCons (tTup (tCons (tC (.str "most")) (tCons (tVar 5) tNil))) tNil)))) (gName 2))
    (tIfS (tAnd (tTest (tOp rEq (tVar 4) (tC (.str "least")))) (tTest (tOp rEq (tVar 6) (tC (.int 0)))))
    (tAsg (tOp rCat (tVar 2) (tLst (tCons (tVar 3) (tCons (tTup (tCons (tC (.str "not")) (tCons (tOp rSubI (tVar 5) (tC (.int 1))) tNil))) tNil)))) (gName 2))
    (tIfS (tAnd (tTest (tOp rEq (tVar 4) (tC (.str "most")))) (tTest (tOp rEq (tVar 6) (tC (.int 0)))))
    (tAsg (tOp rCat (tVar 2) (tLst (tCons (tTup (tCons (tC (.str "not")) (tCons (tOp rAddI (tVar 5) (tC (.int 2))) tNil))) (tCons (tVar 3) tNil)))) (gName 2))
    (tAsg (tOp rCat (tVar 2) (tOp rRep (tLst (tCons (tVar 3) tNil)) (tOp rAddI (tC (.int 1)) (tCB rInt1 (tCons (tOp rEq (tVar 6) (tC (.int 1))) tNil))))) (gName 2)))))))
    (tRet (tCB (rTupQ K) (tCons (tFn (sp__law_shuffled w K) (tCons (tVar 0) (tCons (tVar 2) tNil))) tNil)))))
theorem perm_move {α : Type} {fs zs xs : List α} {k : Nat} {y : α} (h : (fs ++ zs).Perm xs) (hk : zs[k]? = some y) : ((fs ++ [y]) ++ zs.eraseIdx k).Perm xs := by
  refine List.Perm.trans ?_ h
  rw [List.append_assoc]
  refine List.Perm.append_left fs ?_
  have hlt : k < zs.length := (List.getElem?_eq_some_iff.mp hk).1
  have hy : zs[k] = y := (List.getElem?_eq_some_iff.mp hk).2
  have e : zs = zs.take k ++ y :: zs.drop (k + 1) := by
    rw [← hy, List.getElem_cons_drop, List.take_append_drop]
  have e2 : zs.eraseIdx k = zs.take k ++ zs.drop (k + 1) := List.eraseIdx_eq_take_drop_succ zs k
  rw [e2]
  conv => rhs; rw [e]
  exact (List.perm_middle (l₁ := zs.take k) (l₂ := zs.drop (k + 1)) (a := y)).symm
section
variable {P : Program} {w : World} {K : PySem.W.Frag} {mg : Str → Option Value} (E : Ctx w K mg)
include E
theorem rd__law_shuffled (vs : List V) (H : Hp) (Q : VK) (E0 : XK) (h : sp__law_shuffled w K vs H Q E0) : vs.length = 2 ∧ t__law_shuffled P w K { nx := fun _ H' => Q .non H', rt := Q } (start N__law_shuffled vs) H := by
  obtain ⟨p, c, a, n, xs, rfl, pen, hn, s, len, q⟩ := h
  refine ⟨rfl, _, rfl, a, xs, rfl, s, fun l hl => ⟨(by show 0 ≤ sizeLine; decide), fun f hf => ⟨_, _, rfl, ?_⟩⟩⟩
  have e1 := Ex.new (o := .lst xs) hl
  have e2 := Ex.new (o := .lst []) hf
  have e12 := e1.trans e2
  have nlf : l ≠ f := fun z => by rw [← z, upd_same] at hf; cases hf
  have hfn : H f = none := Evl.fresh_back e1 hf
  have ncl : c ≠ l := fun z => pen.cn (by rw [z]; exact hl)
  have ncf : c ≠ f := fun z => pen.cn (by rw [z]; exact hfn)
  have s2 := s.ex e12
  refine ⟨_, rfl, _, _, rfl, s2.elim (fun z => .inl ⟨_, z, rfl⟩) (fun z => .inr ⟨_, z, rfl⟩), _, rfl, by omega, by omega, ?_⟩
  rw [Int.toNat_natCast]
  refine for_it walk_range (fun i σ H' => (∃ x4, σ = [some (.ref p), some (.ref a), some (.ref l), some (.ref f), x4]) ∧ But p H H' ∧ Pen H' p c (n + i) ∧ ∃ zs fs, H' l = some (.lst zs) ∧ H' f = some (.lst fs) ∧ (fs ++ zs).Perm xs ∧ fs.length = i)
    ⟨⟨none, rfl⟩, .of e12, pen.ex e12, xs, [], e2 _ _ upd_same, upd_same, .refl _, rfl⟩ (fun _ _ _ _ _ => trivial) ?_ ?_
  · rintro i x σ H1 H1' hi ⟨⟨x4, rfl⟩, b1, p1, zs, fs, hz, hfs, pm, lf⟩ ⟨rfl, hx⟩
    have lz : zs.length = xs.length - i := by
      have := pm.length_eq
      rw [List.length_append] at this
      omega
    refine ⟨_, rfl, .inl ⟨rfl, _, Evl.sq_of hfs⟩, _, rfl, .inl ⟨rfl, _, Evl.sq_of hz⟩, _, rfl, _, rfl, _, _, rfl, .inl ⟨_, Evl.sq_of hz, rfl⟩, p, c, n + i, _, rfl, p1, by omega, by omega, by omega, fun H2 j b2 p2 j0 j1 => ?_⟩
    have k2 := p1.kp (K := K) b2
    have hz2 := k2.l _ _ hz
    have hf2 := k2.l _ _ hfs
    obtain ⟨jn, rfl⟩ : ∃ jn : Nat, j = (jn : Int) := ⟨j.toNat, by omega⟩
    have hj : jn < zs.length := by omega
    have hsi : seqIndex? (jn : Int) zs.length = some jn := by
      unfold seqIndex?
      have h0 : ¬ (jn : Int) < 0 := by omega
      rw [if_neg h0]
      have h1 : (decide (0 ≤ (jn : Int)) && decide ((jn : Int) < (zs.length : Int))) = true := by
        rw [decide_eq_true (by omega), decide_eq_true (by omega)]
        rfl
      rw [if_pos h1]
      rfl
    refine ⟨l, zs, (jn : Nat), jn, zs[jn], rfl, rfl, hz2, by omega, by omega, hsi, List.getElem?_eq_getElem hj, ?_⟩
    have hf3 : upd H2 l (.lst (zs.eraseIdx jn)) f = some (.lst fs) := by rw [upd_ne nlf.symm]; exact hf2
    refine ⟨f, fs, _, rfl, rfl, hf3, Evl.sz_lt (by omega), ⟨_, rfl⟩, ((b1.trans b2).mut hl).mut hfn, ?_, zs.eraseIdx jn, fs ++ [zs[jn]], ?_, upd_same, perm_move pm (List.getElem?_eq_getElem hj), by rw [List.length_append, lf]; rfl⟩
    · exact (p2.lst ⟨_, hz2⟩ ncl).lst ⟨_, hf3⟩ ncf
    · rw [upd_ne nlf, upd_same]
  · rintro σ H1 ⟨⟨x4, rfl⟩, b1, p1, zs, fs, hz, hfs, pm, lf⟩
    have lz : zs.length = 0 := by
      have := pm.length_eq
      rw [List.length_append] at this
      omega
    rw [List.eq_nil_of_length_eq_zero lz, List.append_nil] at pm
    exact ⟨_, rfl, q H1 f fs b1 p1 hfn hfs pm⟩
end
theorem ok__law_shuffled {P : Program} {w : World} {K : PySem.W.Frag} {mg : Str → Option Value} {base : Heap} (E : Ctx w K mg) : DefOk P w K mg base "_law_shuffled" [("_law_pen_here" : Str), ("_law_row" : Str)] 2 (sp__law_shuffled w K) := by
  obtain ⟨fd, F⟩ := E.D__law_shuffled
  exact ⟨_, fd, fn_mk (t := t__law_shuffled P w K) F sc__law_shuffled (rd__law_shuffled E) (fun cdv A outer s H E0 hr => (pss_cons (ps_par (i := 2) (j := 3) rfl sc__law_shuffled.nd rfl rfl (by decide) rfl rfl (pa_cons (pe_callTy call_list_of (by rfl) E.f_list (by decide +kernel) (pa_cons (pv 1) pa_nil)) (pa_cons (pe_lst pa_nil) pa_nil)) rfl)
    (pss_cons (ps_for PassesOwn.never rfl (pi_range1 (by rfl) E.f_range (pa_cons (pe_callB call_len (by rfl) E.f_len (by decide +kernel) (pa_cons (pv 1) pa_nil)) pa_nil)) (pg_name (i := 4) sc__law_shuffled.nd rfl (Or.inl rfl))
    (pss_one (ps_expr (pe_bm PySem.F.plainAttrs_list PySem.F.slot_list_append PySem.F.type_list_append mt_append (pv 3) (pa_cons (pe_bm PySem.F.plainAttrs_list PySem.F.slot_list_pop PySem.F.type_list_pop mt_popAt (pv 2) (pa_cons (pe_fn (ok__law_draw E) (hr.mono (by decide)) (by rfl) (pa_cons (pv 0) (pa_cons (pe_callB call_len (by rfl) E.f_len (by decide +kernel) (pa_cons (pv 2) pa_nil)) pa_nil))) pa_nil)) pa_nil)))))
    (pss_one (ps_ret (pv 3)))))), (FunD.bindsN F (fun _ _ _ _ _ _ us hl => match us, hl with | [_, _], _ => rfl)), E.g__law_shuffled, F.kp⟩
def RwInv (K : PySem.W.Frag) (p c a : Addr) (n : Nat) (H : Hp) (i : Nat) (σ : L2.St) (H' : Hp) : Prop := ∃ f x3 x4 x5 x6 fs ds, σ = [some (.ref p), some (.ref a), some (.ref f), x3, x4, x5, x6] ∧ But p H H' ∧ Pen H' p c (n + i) ∧ H' f = some (.lst fs) ∧ DtAll K H' fs (List.map Cd.d ds) ∧ ds.length ≤ 2 * i ∧ ∀ d ∈ ds, d.OkB 5
section
variable {P : Program} {w : World} {K : PySem.W.Frag} {mg : Str → Option Value} (E : Ctx w K mg)
include E
theorem rd__law_rewritten (vs : List V) (H : Hp) (Q : VK) (E0 : XK) (h : sp__law_rewritten w K vs H Q E0) : vs.length = 2 ∧ t__law_rewritten P w K { nx := fun _ H' => Q .non H', rt := Q } (start N__law_rewritten vs) H := by
  obtain ⟨p, c, n, v, cs, rfl, pen, hn, dt, ok, q⟩ := h
  obtain ⟨a, xs, rfl, s, al⟩ := dt.tupD
  have lx : xs.length = cs.length := by rw [al.1, List.length_map]
  have lc := ok.1
  refine ⟨rfl, (by show 0 ≤ sizeLine; decide), fun f0 hf0 => ?_⟩
  have e0 := Ex.new (o := .lst []) hf0
  refine ⟨_, rfl, a, rfl, ⟨_, Evl.ex_t e0 s⟩, ?_⟩
  refine for_it (walk_tup (xs := xs)) (RwInv K p c a n H) ⟨f0, none, none, none, none, [], [], rfl, .of e0, pen.ex e0, upd_same, .nil, Nat.le_refl _, fun d hd => by cases hd⟩ (fun i σ H' _ ⟨f, x3, x4, x5, x6, fs, ds, _, b, _⟩ => (pen.sq b).t _ _ s) ?_ ?_
  · rintro i x σ H1 H1' hi ⟨f, x3, x4, x5, x6, fs, ds, rfl, b1, p1, hf, af, ld, okd⟩ ⟨rfl, hx⟩
    have hc0 : cs[i]? = some (cs[i]'(by omega)) := List.getElem?_eq_getElem (by omega)
    have okc := ok.2 _ (List.getElem_mem (l := cs) (by omega : i < cs.length))
    generalize cs[i]'(by omega) = cd at hc0 okc
    have dx := (al.2 i x _ hx (by rw [List.getElem?_map, hc0]; rfl)).tk (pen.sq (K := K) b1).t
    have lfs : fs.length ≤ 6 := by
      rw [af.1, List.length_map]
      omega
    obtain ⟨ca, cx, rfl, sc, ac⟩ := dx.tupD
    -- the word, the number
    obtain ⟨z, k, rest, hcd, hw⟩ : ∃ (z : Str) (k : Int) (r : List V), cx = .str z :: .int k :: r ∧ ((z = "rest") ∨ (-3 ≤ k ∧ k ≤ 3)) := by
      cases cd with
      | rs m r =>
        obtain ⟨u, v, y, rfl, d1, d2, d3⟩ := ac.three
        rw [d1.strD, d2.intD]
        exact ⟨_, _, _, rfl, .inl rfl⟩
      | le k | mo k | eq k | ne k =>
        obtain ⟨u, v, rfl, d1, d2⟩ := ac.two
        rw [d1.strD, d2.intD]
        exact ⟨_, _, _, rfl, .inr okc⟩
    subst hcd
    refine ⟨_, rfl, ca, _, 0, _, rfl, rfl, sc, atI_nat (j := 0) rfl, _, rfl, ca, _, 1, _, rfl, rfl, sc, atI_nat (j := 1) rfl, _, rfl, p, c, _, 3, rfl, p1, by omega, by decide, by decide, fun H2 wy b2 p2 y0 y1 => ⟨_, _, _, rfl, ?_⟩⟩
    have k2 := p1.kp (K := K) b2
    have hf2 := k2.l _ _ hf
    have af2 := af.tk k2.t
    have dc2 : Dt K H2 (.ref ca) cd.d := (Dt.mk sc ac).tk k2.t
    have ok5 : cd.OkB 5 := okc.mono (by decide)
    -- the new list
    have put : ∀ (H3 : Hp) (ws : List V) (es : List Cd), Ex H2 H3 → DtAll K H3 ws (es.map Cd.d) → es.length ≤ 2 → (∀ d ∈ es, d.OkB 5) → ∀ T, H3 T = none → ∀ x3 x4 x5 x6 : Option V,
        RwInv K p c a n H (i + 1) [some (.ref p), some (.ref a), some (.ref T), x3, x4, x5, x6] (upd H3 T (.lst (fs ++ ws))) := by
      intro H3 ws es e3 aw le oke T hT x3 x4 x5 x6
      have eT := Ex.new (o := .lst (fs ++ ws)) hT
      refine ⟨T, x3, x4, x5, x6, fs ++ ws, ds ++ es, rfl, (b1.trans b2).trans (.of (e3.trans eT)), p2.ex (e3.trans eT), upd_same, ?_, by rw [List.length_append]; omega, fun d hd => (List.mem_append.mp hd).elim (okd d) (oke d)⟩
      rw [List.map_append]
      exact ((af2.tk (.ex e3)).app aw).tk (.ex eT)
    have go4 : tAsg (tOp rCat (tVar 2) (tOp rRep (tLst (tCons (tVar 3) tNil)) (tOp rAddI (tC (.int 1)) (tCB rInt1 (tCons (tOp rEq (tVar 6) (tC (.int 1))) tNil))))) (gName 2) { nx := RwInv K p c a n H (i + 1), rt := Q } [some (.ref p), some (.ref a), some (.ref f), some (.ref ca), some (.str z), some (.int k), some (.int wy)] H2 := by
      refine ⟨_, rfl, _, rfl, (by show 1 ≤ sizeLine; decide), fun L hL => ⟨_, rfl, rfl, .inr ⟨_, rfl, 1, _, rfl, rfl, ?_⟩⟩⟩
      rw [eqI]
      have eL := Ex.new (o := .lst [.ref ca]) hL
      by_cases hy : wy = 1
      · rw [decide_eq_true hy]
        refine ⟨L, 2, [.ref ca], rfl, rfl, upd_same, by decide, by decide, (by show 2 ≤ sizeLine; decide), fun M hM => ?_⟩
        have eM := Ex.new (o := .lst [.ref ca, .ref ca]) hM
        refine ⟨f, M, fs, _, rfl, rfl, eM _ _ (eL _ _ hf2), upd_same, Evl.sz_of (by show fs.length + 2 ≤ 100000; omega), fun T hT => ?_⟩
        exact put _ [.ref ca, .ref ca] [cd, cd] (eL.trans eM) ((DtAll.cons dc2 (.one dc2)).tk (.ex (eL.trans eM))) (by simp) (fun d hd => by
          simp only [List.mem_cons, List.not_mem_nil, or_false, or_self] at hd
          rw [hd]
          exact ok5) T hT _ _ _ _
      · rw [decide_eq_false hy]
        refine ⟨L, 1, [.ref ca], rfl, rfl, upd_same, by decide, by decide, (by show 1 ≤ sizeLine; decide), fun M hM => ?_⟩
        have eM := Ex.new (o := .lst [.ref ca]) hM
        refine ⟨f, M, fs, _, rfl, rfl, eM _ _ (eL _ _ hf2), upd_same, Evl.sz_of (by show fs.length + 1 ≤ 100000; omega), fun T hT => ?_⟩
        exact put _ [.ref ca] [cd] (eL.trans eM) ((DtAll.one dc2).tk (.ex (eL.trans eM))) (by simp) (fun d hd => by rw [List.mem_singleton.mp hd]; exact ok5) T hT _ _ _ _
    -- the tests, one behind the other
    have two : ∀ {H3 : Hp} {L : Addr} {u v : V} {d e : Cd}, Ex H2 H3 → H3 L = none → Dt K H3 u d.d → Dt K H3 v e.d → d.OkB 5 → e.OkB 5 → ∀ x3 x4 x5 x6 : Option V, rCat (.ref f) (.ref L) (upd H3 L (.lst [u, v])) fun x H' => RwInv K p c a n H (i + 1) [some (.ref p), some (.ref a), some x, x3, x4, x5, x6] H' := by
      intro H3 L u v d e e3 hL du dv od oe x3 x4 x5 x6
      have eL := Ex.new (o := .lst [u, v]) hL
      refine ⟨f, L, fs, _, rfl, rfl, eL _ _ (e3 _ _ hf2), upd_same, Evl.sz_of (by show fs.length + 2 ≤ 100000; omega), fun T hT => ?_⟩
      refine put _ [u, v] [d, e] (e3.trans eL) ((DtAll.cons du (.one dv)).tk (.ex eL)) (by simp) (fun y hy => ?_) T hT _ _ _ _
      simp only [List.mem_cons, List.not_mem_nil, or_false] at hy
      rcases hy with rfl | rfl
      · exact od
      · exact oe
    have num : z ≠ "rest" → -3 ≤ k ∧ k ≤ 3 := fun h => hw.resolve_left h
    refine ⟨_, rfl, rfl, _, rfl, ?_⟩
    rw [eqS]
    have way : ∀ {R S : Prop}, R → S → (if decide (V.int wy = V.int 0) = true then R else S) := fun r s => ite2 (fun _ => r) fun _ => s
    have t3 : tIfS (tAnd (tTest (tOp rEq (tVar 4) (tC (.str "most")))) (tTest (tOp rEq (tVar 6) (tC (.int 0)))))
        (tAsg (tOp rCat (tVar 2) (tLst (tCons (tTup (tCons (tC (.str "not")) (tCons (tOp rAddI (tVar 5) (tC (.int 2))) tNil))) (tCons (tVar 3) tNil)))) (gName 2))
        (tAsg (tOp rCat (tVar 2) (tOp rRep (tLst (tCons (tVar 3) tNil)) (tOp rAddI (tC (.int 1)) (tCB rInt1 (tCons (tOp rEq (tVar 6) (tC (.int 1))) tNil))))) (gName 2))
        { nx := RwInv K p c a n H (i + 1), rt := Q } [some (.ref p), some (.ref a), some (.ref f), some (.ref ca), some (.str z), some (.int k), some (.int wy)] H2 := by
      refine ⟨_, rfl, rfl, _, rfl, ?_⟩
      rw [eqS]
      by_cases hz : z = "most"
      · rw [decide_eq_true hz]
        refine ⟨_, rfl, rfl, _, rfl, ?_⟩
        refine way ?_ go4
        have kk := num (by rw [hz]; decide +kernel)
        refine ⟨_, rfl, _, rfl, k, 2, rfl, rfl, (by show 2 ≤ sizeLine; decide), fun T1 hT1 => ⟨_, rfl, (by show 2 ≤ sizeLine; decide), fun L hL => ?_⟩⟩
        have eT := Ex.new (o := .tup [.str "not", .int (k + 2)]) hT1
        exact two (d := .ne (k + 2)) (e := cd) eT hL (Dt.mk (Evl.st_of upd_same) (.cons (.str _) (.one (.int _)))) (dc2.tk (.ex eT)) (by show -5 ≤ k + 2 ∧ k + 2 ≤ 5; omega) ok5 _ _ _ _
      · rw [decide_eq_false hz]
        exact go4
    have t2 : tIfS (tAnd (tTest (tOp rEq (tVar 4) (tC (.str "least")))) (tTest (tOp rEq (tVar 6) (tC (.int 0)))))
        (tAsg (tOp rCat (tVar 2) (tLst (tCons (tVar 3) (tCons (tTup (tCons (tC (.str "not")) (tCons (tOp rSubI (tVar 5) (tC (.int 1))) tNil))) tNil)))) (gName 2))
        (tIfS (tAnd (tTest (tOp rEq (tVar 4) (tC (.str "most")))) (tTest (tOp rEq (tVar 6) (tC (.int 0)))))
        (tAsg (tOp rCat (tVar 2) (tLst (tCons (tTup (tCons (tC (.str "not")) (tCons (tOp rAddI (tVar 5) (tC (.int 2))) tNil))) (tCons (tVar 3) tNil)))) (gName 2))
        (tAsg (tOp rCat (tVar 2) (tOp rRep (tLst (tCons (tVar 3) tNil)) (tOp rAddI (tC (.int 1)) (tCB rInt1 (tCons (tOp rEq (tVar 6) (tC (.int 1))) tNil))))) (gName 2)))
        { nx := RwInv K p c a n H (i + 1), rt := Q } [some (.ref p), some (.ref a), some (.ref f), some (.ref ca), some (.str z), some (.int k), some (.int wy)] H2 := by
      refine ⟨_, rfl, rfl, _, rfl, ?_⟩
      rw [eqS]
      by_cases hz : z = "least"
      · rw [decide_eq_true hz]
        refine ⟨_, rfl, rfl, _, rfl, ?_⟩
        refine way ?_ t3
        have kk := num (by rw [hz]; decide +kernel)
        refine ⟨_, rfl, _, rfl, _, rfl, k, 1, rfl, rfl, (by show 2 ≤ sizeLine; decide), fun T1 hT1 => ⟨(by show 2 ≤ sizeLine; decide), fun L hL => ?_⟩⟩
        have eT := Ex.new (o := .tup [.str "not", .int (k - 1)]) hT1
        exact two (d := cd) (e := .ne (k - 1)) eT hL (dc2.tk (.ex eT)) (Dt.mk (Evl.st_of upd_same) (.cons (.str _) (.one (.int _)))) ok5 (by show -5 ≤ k - 1 ∧ k - 1 ≤ 5; omega) _ _ _ _
      · rw [decide_eq_false hz]
        exact t3
    by_cases hz : z = "is"
    · rw [decide_eq_true hz]
      refine ⟨_, rfl, rfl, _, rfl, ?_⟩
      refine way ?_ t2
      have kk := num (by rw [hz]; decide +kernel)
      refine ⟨_, rfl, _, rfl, (by show 2 ≤ sizeLine; decide), fun T1 hT1 => ⟨_, rfl, (by show 2 ≤ sizeLine; decide), fun T2 hT2 => ⟨(by show 2 ≤ sizeLine; decide), fun L hL => ?_⟩⟩⟩
      have e1 := Ex.new (o := .tup [.str "least", .int k]) hT1
      have e2 := Ex.new (o := .tup [.str "most", .int k]) hT2
      exact two (d := .le k) (e := .mo k) (e1.trans e2) hL (Dt.mk (Evl.st_of (e2 _ _ upd_same)) (.cons (.str _) (.one (.int _)))) (Dt.mk (Evl.st_of upd_same) (.cons (.str _) (.one (.int _)))) (by show -5 ≤ k ∧ k ≤ 5; omega) (by show -5 ≤ k ∧ k ≤ 5; omega) _ _ _ _
    · rw [decide_eq_false hz]
      exact t2
  · rintro σ H1 ⟨f, x3, x4, x5, x6, fs, ds, rfl, b1, p1, hf, af, ld, okd⟩
    have lfs : fs.length ≤ 6 := by
      rw [af.1, List.length_map]
      omega
    refine ⟨_, rfl, _, rfl, p, c, f, _, fs, rfl, p1, by omega, .inl (Evl.sq_of hf), by omega, fun H2 l ys b2 p2 hl0 hl pm => ?_⟩
    obtain ⟨es, pe, ae⟩ := al_perm pm (Al.of_dt (af.tk (p1.kp (K := K) b2).t))
    refine ⟨l, ys, rfl, .inl (Evl.sq_of hl), fun T H3 e3 s3 => q H3 _ es ((b1.trans b2).trans (.of e3)) ((p2.ex e3).mono (by omega)) (Dt.mk s3 (ae.to_dt.tk (.ex e3))) ⟨by rw [pe.length_eq]; omega, fun d hd => okd d (pe.mem_iff.mp hd)⟩⟩
end
theorem ok__law_rewritten {P : Program} {w : World} {K : PySem.W.Frag} {mg : Str → Option Value} {base : Heap} (E : Ctx w K mg) : DefOk P w K mg base "_law_rewritten" [("_law_pen_here" : Str), ("_law_conditions" : Str)] 3 (sp__law_rewritten w K) := by
  obtain ⟨fd, F⟩ := E.D__law_rewritten
  exact ⟨_, fd, fn_mk (t := t__law_rewritten P w K) F sc__law_rewritten (rd__law_rewritten E) (fun cdv A outer s H E0 hr => (pss_cons (ps_set (i := 2) sc__law_rewritten.nd rfl (Or.inl rfl) (pe_lst pa_nil))
    (pss_cons (ps_for PassesOwn.never rfl (pi_tup (pv 1)) (pg_name (i := 3) sc__law_rewritten.nd rfl (Or.inl rfl))
    (pss_cons (ps_par3 (i := 4) (j := 5) (l := 6) rfl sc__law_rewritten.nd rfl rfl rfl (by decide) (by decide) (by decide) rfl rfl rfl (pa_cons (pe_ix ix_tup (pv 3) pe_int (fun _ _ => rfl)) (pa_cons (pe_ix ix_tup (pv 3) pe_int (fun _ _ => rfl)) (pa_cons (pe_fn (ok__law_draw E) (hr.mono (by decide)) (by rfl) (pa_cons (pv 0) (pa_cons pe_int pa_nil))) pa_nil))) rfl)
    (pss_one (ps_if (PW.pt (pw_and (pt_cmpR op_eq (pv 4) pe_str (nomark _)) (pw_and1 (pt_cmpR op_eq (pv 6) pe_int (nomark _)))))
    (pss_one (ps_set (i := 2) sc__law_rewritten.nd rfl (Or.inl rfl) (pe_op op_cat (pv 2) (pe_lst (pa_cons (pe_tup (pa_cons pe_str (pa_cons (pv 5) pa_nil))) (pa_cons (pe_tup (pa_cons pe_str (pa_cons (pv 5) pa_nil))) pa_nil))))))
    (pss_one (ps_if (PW.pt (pw_and (pt_cmpR op_eq (pv 4) pe_str (nomark _)) (pw_and1 (pt_cmpR op_eq (pv 6) pe_int (nomark _)))))
    (pss_one (ps_set (i := 2) sc__law_rewritten.nd rfl (Or.inl rfl) (pe_op op_cat (pv 2) (pe_lst (pa_cons (pv 3) (pa_cons (pe_tup (pa_cons pe_str (pa_cons (pe_op op_sub (pv 5) pe_int) pa_nil))) pa_nil))))))
    (pss_one (ps_if (PW.pt (pw_and (pt_cmpR op_eq (pv 4) pe_str (nomark _)) (pw_and1 (pt_cmpR op_eq (pv 6) pe_int (nomark _)))))
    (pss_one (ps_set (i := 2) sc__law_rewritten.nd rfl (Or.inl rfl) (pe_op op_cat (pv 2) (pe_lst (pa_cons (pe_tup (pa_cons pe_str (pa_cons (pe_op op_add (pv 5) pe_int) pa_nil))) (pa_cons (pv 3) pa_nil))))))
    (pss_one (ps_set (i := 2) sc__law_rewritten.nd rfl (Or.inl rfl) (pe_op op_cat (pv 2) (pe_op op_rep (pe_lst (pa_cons (pv 3) pa_nil)) (pe_op op_add pe_int (pe_callTy call_int1 (by rfl) E.f_int (by decide +kernel) (pa_cons (pe_cmpR op_eq (pv 6) pe_int (nomark _)) pa_nil)))))))))))))))
    (pss_one (ps_ret (pe_callTy call_tuple_q (by rfl) E.f_tuple (by decide +kernel) (pa_cons (pe_fn (ok__law_shuffled E) (hr.mono (by decide)) (by rfl) (pa_cons (pv 0) (pa_cons (pv 2) pa_nil))) pa_nil))))))), (FunD.bindsN F (fun _ _ _ _ _ _ us hl => match us, hl with | [_, _], _ => rfl)), E.g__law_rewritten, F.kp⟩
end K28

set_option Elab.async false
set_option linter.all false
set_option maxRecDepth 100000
set_option maxHeartbeats 4000000
namespace K28
open PySem PySem.Spec PyProof.Rows L2
open Evl (Ex)

def sp__law_twin (w : World) (K : PySem.W.Frag) : Sp := fun vs H Q _ => ∃ (p c : Addr) (n mo : Nat) (v : V) (B : Bk), vs = [.ref p, v, .int mo] ∧ Pen H p c n ∧ n ≤ 100000 ∧ LwB K H v B ∧ B.OkB 4 13 2 3 3 ∧ mo ≤ 3 ∧
  ∀ H' x C, But p H H' → Pen H' p c (n + 2000) → LwB K H' x C → C.OkB 7 (13 * (4 + mo)) 14 5 6 → Q x H'
def N__law_twin : List Str := ["_law_pen_here", "_law_book", "_law_most", "_law_places", "_law_again", "_law_lap", "_law_origin", "_law_moves", "_law_goals", "_law_place", "_law_old", "_law_move", "_law_ends", "_law_at", "_law_one", "_law_goal"]
theorem sc__law_twin : FnScope N__law_twin ["_law_pen_here", "_law_book", "_law_most"] (defScope s__law_twin) := ⟨rfl, rfl, rfl, by decide +kernel, rfl, by decide +kernel, by decide +kernel⟩
/-- names: 0 _law_pen_here* 1 _law_book* 2 _law_most 3 _law_places* 4 _law_again 5 _law_lap 6 _law_origin 7 _law_moves 8 _law_goals 9 _law_place 10 _law_old 11 _law_move* 12 _law_ends 13 _law_at 14 _law_one 15 _law_goal -/
def t__law_twin (P : Program) (w : World) (K : PySem.W.Frag) : TS :=
    (tSeq (tAsg (tCB (rLenX K) (tCons (tDGet (tVar 1) (tC (.str "sides"))) tNil)) (gName 3))
    (tSeq (tAsg (tLc (iRng1 (tCons (tFn (sp__law_draw w K) (tCons (tVar 0) (tCons (tOp rAddI (tVar 2) (tC (.int 1))) tNil))) tNil)) (gName 5) tYes (tFn (sp__law_draw w K) (tCons (tVar 0) (tCons (tVar 3) tNil))) [5]) (gName 4))
    (tSeq (tPar3 6 7 8 (tCons (tFn (sp__law_shuffled w K) (tCons (tVar 0) (tCons (tOp rCat (tLstRg (tRg1 (tVar 3))) (tVar 4)) tNil))) (tCons (tLst tNil) (tCons (tLst tNil) tNil))))
    (tSeq (tFor (iEnumS K (tCons (tVar 6) tNil)) (gTup K 2 (gCons (gName 9) (gCons (gName 10) gNil)))
    (tSeq (tFor (iList K (tDGet (tVar 1) (tC (.str "moves")))) (gName 11)
    (tIfS (tTest (tOp rEq (tOp (rIxT K) (tVar 11) (tC (.int 0))) (tVar 10)))
    (tSeq (tAsg (tLc (iEnumS K (tCons (tVar 6) tNil)) (gTup K 2 (gCons (gName 13) (gCons (gName 14) gNil))) (tTest (tOp rEq (tVar 14) (tOp (rIxT K) (tVar 11) (tC (.int 3))))) (tVar 13) [13, 14]) (gName 12))
    (tDrop (tBM K "list" rAppend (tVar 7) (tCons (tTup (tCons (tVar 9) (tCons (tFn (sp__law_rewritten w K) (tCons (tVar 0) (tCons (tOp (rIxT K) (tVar 11) (tC (.int 1))) tNil))) (tCons (tOp (rIxT K) (tVar 11) (tC (.int 2))) (tCons (tFn (sp__law_pick w K) (tCons (tVar 0) (tCons (tVar 12) tNil))) tNil))))) tNil))))
    tNext))
    (tFor (iList K (tDGet (tVar 1) (tC (.str "goals")))) (gName 15)
    (tIfS (tTest (tOp rEq (tOp (rIxT K) (tVar 15) (tC (.int 0))) (tVar 10)))
    (tDrop (tBM K "list" rAppend (tVar 8) (tCons (tTup (tCons (tVar 9) (tCons (tFn (sp__law_rewritten w K) (tCons (tVar 0) (tCons (tOp (rIxT K) (tVar 15) (tC (.int 1))) tNil))) tNil))) tNil)))
    tNext))))
    (tRet (tDisp [((tC (.str "sides")), (tLc (iList K (tVar 6)) (gName 10) tYes (tOp (rIxL K) (tDGet (tVar 1) (tC (.str "sides"))) (tVar 10)) [10])), ((tC (.str "moves")), (tFn (sp__law_shuffled w K) (tCons (tVar 0) (tCons (tVar 7) tNil)))), ((tC (.str "goals")), (tVar 8))]))))))
def t__law_twin_3 (P : Program) (w : World) (K : PySem.W.Frag) : TS :=
    (tSeq (tFor (iEnumS K (tCons (tVar 6) tNil)) (gTup K 2 (gCons (gName 9) (gCons (gName 10) gNil)))
    (tSeq (tFor (iList K (tDGet (tVar 1) (tC (.str "moves")))) (gName 11)
    (tIfS (tTest (tOp rEq (tOp (rIxT K) (tVar 11) (tC (.int 0))) (tVar 10)))
    (tSeq (tAsg (tLc (iEnumS K (tCons (tVar 6) tNil)) (gTup K 2 (gCons (gName 13) (gCons (gName 14) gNil))) (tTest (tOp rEq (tVar 14) (tOp (rIxT K) (tVar 11) (tC (.int 3))))) (tVar 13) [13, 14]) (gName 12))
    (tDrop (tBM K "list" rAppend (tVar 7) (tCons (tTup (tCons (tVar 9) (tCons (tFn (sp__law_rewritten w K) (tCons (tVar 0) (tCons (tOp (rIxT K) (tVar 11) (tC (.int 1))) tNil))) (tCons (tOp (rIxT K) (tVar 11) (tC (.int 2))) (tCons (tFn (sp__law_pick w K) (tCons (tVar 0) (tCons (tVar 12) tNil))) tNil))))) tNil))))
    tNext))
    (tFor (iList K (tDGet (tVar 1) (tC (.str "goals")))) (gName 15)
    (tIfS (tTest (tOp rEq (tOp (rIxT K) (tVar 15) (tC (.int 0))) (tVar 10)))
    (tDrop (tBM K "list" rAppend (tVar 8) (tCons (tTup (tCons (tVar 9) (tCons (tFn (sp__law_rewritten w K) (tCons (tVar 0) (tCons (tOp (rIxT K) (tVar 15) (tC (.int 1))) tNil))) tNil))) tNil)))
    tNext))))
    (tRet (tDisp [((tC (.str "sides")), (tLc (iList K (tVar 6)) (gName 10) tYes (tOp (rIxL K) (tDGet (tVar 1) (tC (.str "sides"))) (tVar 10)) [10])), ((tC (.str "moves")), (tFn (sp__law_shuffled w K) (tCons (tVar 0) (tCons (tVar 7) tNil)))), ((tC (.str "goals")), (tVar 8))])))
/-- what the twin's loops keep -/
def Tw (K : PySem.W.Frag) (p c : Addr) (H0 : Hp) (og m g : Addr) (os : List Nat) (N nm ng : Nat) (ne : Prop) (H' : Hp) : Prop := But p H0 H' ∧ Pen H' p c N ∧ H' og = some (.lst (os.map fun o : Nat => V.int o)) ∧
  ∃ (ms : List V) (mvs : List Mv) (gs : List V) (gws : List Gw), H' m = some (.lst ms) ∧ DtAll K H' ms (mvs.map Mv.d) ∧ H' g = some (.lst gs) ∧ DtAll K H' gs (gws.map Gw.d) ∧ mvs.length ≤ nm ∧ gws.length ≤ ng ∧ (∀ x ∈ mvs, x.OkB os.length 5 6) ∧ (∀ x ∈ gws, x.OkB os.length 5 6) ∧ (ne → mvs ≠ [])
theorem Tw.mono {K : PySem.W.Frag} {p c : Addr} {H0 : Hp} {og m g : Addr} {os : List Nat} {N nm ng N' nm' ng' : Nat} {ne ne' : Prop} {H' : Hp} (h : Tw K p c H0 og m g os N nm ng ne H') (a : N ≤ N') (b : nm ≤ nm') (d : ng ≤ ng') (e : ne' → ne) : Tw K p c H0 og m g os N' nm' ng' ne' H' := by
  obtain ⟨h1, h2, h3, ms, mvs, gs, gws, h4, h5, h6, h7, h8, h9, h10, h11, h12⟩ := h
  exact ⟨h1, h2.mono a, h3, ms, mvs, gs, gws, h4, h5, h6, h7, by omega, by omega, h10, h11, fun z => h12 (e z)⟩
theorem Tw.ex {K : PySem.W.Frag} {p c : Addr} {H0 : Hp} {og m g : Addr} {os : List Nat} {N nm ng : Nat} {ne : Prop} {H' H'' : Hp} (h : Tw K p c H0 og m g os N nm ng ne H') (e : Ex H' H'') : Tw K p c H0 og m g os N nm ng ne H'' := by
  obtain ⟨h1, h2, h3, ms, mvs, gs, gws, h4, h5, h6, h7, h8⟩ := h
  exact ⟨h1.trans (.of e), h2.ex e, e _ _ h3, ms, mvs, gs, gws, e _ _ h4, h5.tk (.ex e), e _ _ h6, h7.tk (.ex e), h8⟩
theorem Stay.lst {K : PySem.W.Frag} {H H' : Hp} {a : Addr} {xs ys : List V} (h : H a = some (.lst xs)) (h' : H' a = some (.lst xs)) : Stay K a ys H H' := by
  refine ⟨fun z => ?_, fun z => ?_⟩
  · rcases z with (z | ⟨o, z⟩) | z
    · rw [h] at z
      cases z
      exact Evl.sq_of h'
    · rw [h] at z
      cases z
    · exact .inr z
  · rcases z with (z | ⟨o, z⟩) | z
    · rw [h] at z
      cases z
    · rw [h] at z
      cases z
    · exact .inr z
section
variable {P : Program} {w : World} {K : PySem.W.Frag} {mg : Str → Option Value}
theorem twin_3 {p c og m g a : Addr} {n pl : Nat} {H0 H : Hp} {Q : VK} {os : List Nat} {B : Bk} {x2 x4 x5 : Option V} {s0 m0 g0 : Addr} {ms0 gs0 : List V} (pen0 : Pen H0 p c n) (hn : n ≤ 200000) (lw : LwAt K H0 a s0 m0 g0 ms0 gs0 B) (oB : B.OkB 4 13 2 3 3) (epl : pl = B.sides.length)
    (lo : os.length ≤ 4 + 3) (lo1 : 1 ≤ os.length) (hos : ∀ o ∈ os, o < pl) (hall : ∀ t, t < pl → t ∈ os) (hog0 : H0 og = none) (hm0 : H0 m = none) (hg0 : H0 g = none) (n1 : og ≠ m) (n2 : og ≠ g) (n3 : m ≠ g)
    (st : Tw K p c H0 og m g os (n + 20) 0 0 False H)
    (q : ∀ H' x C, But p H0 H' → Pen H' p c (n + 1990) → LwB K H' x C → C.OkB 7 (13 * os.length) 14 5 6 → Q x H') :
    t__law_twin_3 P w K { nx := fun _ H' => Q .non H', rt := Q } [some (.ref p), some (.ref a), x2, some (.int pl), x4, x5, some (.ref og), some (.ref m), some (.ref g), none, none, none, none, none, none, none] H := by
  have ncm : c ≠ m := fun z => pen0.cn (by rw [z]; exact hm0)
  have ncg : c ≠ g := fun z => pen0.cn (by rw [z]; exact hg0)
  have lm0 : ms0.length = B.moves.length := by rw [lw.am.1, List.length_map]
  have lg0 : gs0.length = B.goals.length := by rw [lw.ag.1, List.length_map]
  have m13 := oB.m1
  have g2 := oB.g1
  refine ⟨_, rfl, og, _, rfl, .inl (Evl.sq_of st.2.2.1), fun J G W hG => ?_⟩
  have lwT : ∀ {H' : Hp} {N nm ng : Nat} {ne : Prop}, Tw K p c H0 og m g os N nm ng ne H' → LwAt K H' a s0 m0 g0 ms0 gs0 B := fun t => lw.but pen0 t.1
  refine for_it W (fun i σ H' => (∃ x9 x10 x11 x12 x13 x14 x15, σ = [some (.ref p), some (.ref a), x2, some (.int pl), x4, x5, some (.ref og), some (.ref m), some (.ref g), x9, x10, x11, x12, x13, x14, x15]) ∧ Tw K p c H0 og m g os (n + 20 + 160 * i) (13 * i) (2 * i) (∃ j, ∃ y ∈ B.moves, j < i ∧ os[j]? = some y.place) H')
    ⟨⟨_, _, _, _, _, _, _, rfl⟩, st.mono (by omega) (by omega) (by omega) (fun ⟨j, y, _, hj, _⟩ => absurd hj (Nat.not_lt_zero _))⟩ (fun i σ H' _ t => hG _ (.lst st.2.2.1 t.2.2.2.1)) ?_ ?_
  · rintro i x σ H1 H1' hi ⟨⟨x9, x10, x11, x12, x13, x14, x15, rfl⟩, tw⟩ ⟨T0, y1, y2, rfl, hT0, rfl, q1, q2⟩
    rw [List.length_map] at hi
    have q3 : (os.map fun o : Nat => V.int o)[i]? = some y2 := q2
    rw [List.getElem?_map, List.getElem?_eq_getElem hi] at q3
    cases q1
    cases q3
    have hoi : os[i]? = some os[i] := List.getElem?_eq_getElem hi
    have hold : os[i] < pl := hos _ (List.getElem_mem hi)
    generalize os[i] = old at hoi hold
    have tw1 := tw.ex (Ex.new (o := .tup [.int (i : Nat), .int (old : Nat)]) hT0)
    refine ⟨T0, _, rfl, Evl.st_of upd_same, rfl, _, _, rfl, _, _, rfl, rfl, ?_⟩
    -- the moves
    refine ⟨_, rfl, a, _, rfl, (lwT tw1).gm, m0, rfl, ⟨_, Evl.sq_of (lwT tw1).m⟩, ?_⟩
    refine for_it (walk_list (xs := ms0)) (fun k σ H' => (∃ x11 x12 x13 x14 x15, σ = [some (.ref p), some (.ref a), x2, some (.int pl), x4, x5, some (.ref og), some (.ref m), some (.ref g), some (.int (i : Nat)), some (.int (old : Nat)), x11, x12, x13, x14, x15]) ∧ Tw K p c H0 og m g os (n + 20 + 160 * i + 10 * k) (13 * i + k) (2 * i) ((∃ j, ∃ y ∈ B.moves, j < i ∧ os[j]? = some y.place) ∨ ∃ l, ∃ y, l < k ∧ B.moves[l]? = some y ∧ y.place = old) H')
      ⟨⟨_, _, _, _, _, rfl⟩, tw1.mono (by omega) (by omega) (by omega) (fun z => z.resolve_right fun ⟨l, y, hl, _⟩ => absurd hl (Nat.not_lt_zero _))⟩ (fun k σ H' _ t => Evl.sq_of (lwT t.2).m) ?_ ?_
    · rintro k x σ H2 H2' hk ⟨⟨x11, x12, x13, x14, x15, rfl⟩, tw2⟩ ⟨rfl, hx⟩
      have hmk : B.moves[k]? = some (B.moves[k]'(by omega)) := List.getElem?_eq_getElem (by omega)
      have okm := oB.m _ (List.getElem_mem (l := B.moves) (by omega : k < B.moves.length))
      generalize B.moves[k]'(by omega) = mv at hmk okm
      obtain ⟨xa, cv, rfl, sx, dcv⟩ := mv_tup ((lwT tw2).am.2 k x _ hx (by rw [List.getElem?_map, hmk]; rfl))
      refine ⟨_, rfl, xa, _, 0, _, rfl, rfl, sx, rfl, _, rfl, rfl, _, rfl, ?_⟩
      rw [eqI]
      refine ite2 (fun hp => ?_) fun hp => ?_
      · have hp2 : mv.place = old := Int.ofNat.inj (of_decide_eq_true hp)
        refine ⟨_, rfl, og, _, rfl, .inl (Evl.sq_of tw2.2.2.1), fun J2 G2 W2 hG2 D hD => ?_⟩
        refine lc_filt hD W2 (by rw [List.length_map]; omega) (fun j => os[j]?.bind fun o => if decide (o = mv.target) = true then some (.int (j : Nat)) else none) (fun H' e => hG2 _ (.ex e)) ?_ ?_
        · rintro j y H3 H3' kk k0 hj e3 ⟨T1, z1, z2, rfl, hT1, rfl, r1, r2⟩ k1 k2
          rw [List.length_map] at hj
          have r3 : (os.map fun o : Nat => V.int o)[j]? = some z2 := r2
          rw [List.getElem?_map, List.getElem?_eq_getElem hj] at r3
          cases r1
          cases r3
          have hoj : os[j]? = some os[j] := List.getElem?_eq_getElem hj
          generalize os[j] = oj at hoj
          have e4 := Ex.new (o := .tup [.int (j : Nat), .int (oj : Nat)]) hT1
          rw [hoj] at k1 k2
          refine ⟨T1, _, rfl, Evl.st_of upd_same, rfl, _, _, rfl, _, _, rfl, rfl, rfl, _, rfl, _, rfl, xa, _, 3, _, rfl, rfl, Evl.ex_t (e3.trans e4) sx, rfl, rfl, _, rfl, ?_⟩
          rw [eqI]
          have eqn : decide (((oj : Nat) : Int) = (mv.target : Nat)) = decide (oj = mv.target) := decide_eq_decide.mpr ⟨fun z => by omega, fun z => by omega⟩
          show if decide (((oj : Nat) : Int) = (mv.target : Nat)) = true then _ else _
          rw [eqn]
          refine ite2 (fun h => ⟨_, rfl, k1 _ _ (if_pos h) e4⟩) fun h => k2 (if_neg h) _ e4
        · intro H3 e3 hl3
          rw [List.length_map] at hl3
          generalize hE : (List.range os.length).filterMap (fun j => os[j]?.bind fun o => if decide (o = mv.target) = true then some (V.int (j : Nat)) else none) = ends at hl3
          have ok_ends : ∀ x ∈ ends, ∃ j : Nat, x = .int j ∧ j < os.length := by
            intro x hx
            rw [← hE] at hx
            obtain ⟨j, hj, hv⟩ := List.mem_filterMap.mp hx
            have hj2 := List.mem_range.mp hj
            rw [List.getElem?_eq_getElem hj2] at hv
            have hv2 : (if decide (os[j] = mv.target) = true then some (V.int (j : Nat)) else none) = some x := hv
            by_cases z : decide (os[j] = mv.target) = true
            · rw [if_pos z] at hv2
              exact ⟨j, (Option.some.inj hv2).symm, hj2⟩
            · rw [if_neg z] at hv2
              cases hv2
          have ne_ends : ends ≠ [] := by
            obtain ⟨j, hj, ej⟩ := List.getElem_of_mem (hall mv.target (by rw [epl]; exact okm.t))
            have : V.int (j : Nat) ∈ ends := by
              rw [← hE]
              refine List.mem_filterMap.mpr ⟨j, List.mem_range.mpr hj, ?_⟩
              rw [List.getElem?_eq_getElem hj]
              show (if decide (os[j] = mv.target) = true then some (V.int (j : Nat)) else none) = _
              rw [if_pos (decide_eq_true ej)]
            exact List.ne_nil_of_mem this
          have le_ends : ends.length ≤ os.length := by
            rw [← hE]
            have := List.length_filterMap_le (fun j => os[j]?.bind fun o => if decide (o = mv.target) = true then some (V.int (j : Nat)) else none) (List.range os.length)
            rw [List.length_range] at this
            exact this
          have tw3 := tw2.ex e3
          obtain ⟨b3, p3, og3, ms, mvs, gs, gws, hm3, am3, hg3, ag3, lm3, lg3, okm3, okg3, ne3⟩ := tw3
          have sx3 := Evl.ex_t e3 sx
          refine ⟨_, rfl, .inl ⟨rfl, _, Evl.sq_of hm3⟩, _, rfl, _, rfl, _, rfl, xa, _, 1, _, rfl, rfl, sx3, rfl, p, c, _, cv, mv.cds, rfl, p3, by omega, dcv.tk (.ex e3), okm.c, fun H4 rv rcs b4 p4 dr okr => ?_⟩
          have k4 := p3.kp (K := K) b4
          refine ⟨_, rfl, xa, _, 2, _, rfl, rfl, k4.t _ _ sx3, rfl, _, rfl, _, rfl, p, c, D, _, ends, rfl, p4, by omega, .inl (Evl.sq_of (k4.l _ _ hl3)), ne_ends, by omega, fun H5 ev b5 p5 hev => ⟨(by show 4 ≤ sizeLine; decide), fun T hT => ?_⟩⟩
          obtain ⟨jn, rfl, hjn⟩ := ok_ends ev hev
          have k5 := p4.kp (K := K) b5
          have eT := Ex.new (o := .tup [.int (i : Nat), rv, .int mv.shift, .int (jn : Nat)]) hT
          have k5T := k5.trans (Kp.ex eT)
          have kall := k4.trans k5T
          have hm6 := kall.l _ _ hm3
          have lenms : ms.length < 1000 := by
            rw [am3.1, List.length_map]
            omega
          refine ⟨m, ms, _, rfl, rfl, hm6, Evl.sz_lt (by omega), ⟨_, _, _, _, _, rfl⟩, (((b3.trans b4).trans b5).trans (.of eT)).mut hm0, ((p5.ex eT).lst ⟨_, hm6⟩ ncm).mono (by omega), ?_, ms ++ [.ref T], mvs ++ [⟨i, rcs, mv.shift, jn⟩], gs, gws, upd_same, ?_, ?_, (ag3.tk kall.t).tk (.up hm6 noTup_lst), by rw [List.length_append, List.length_singleton]; omega, lg3, fun y hy => ?_, okg3, fun _ z => ?_⟩
          · rw [upd_ne n1]
            exact kall.l _ _ og3
          · rw [List.map_append]
            refine ((am3.tk kall.t).app (.one ?_)).tk (.up hm6 noTup_lst)
            exact Dt.mk (Evl.st_of upd_same) (.cons (.int _) (.cons (dr.tk k5T.t) (.cons (.int _) (.one (.int _)))))
          · rw [upd_ne n3.symm]
            exact kall.l _ _ hg3
          · rcases List.mem_append.mp hy with hy | hy
            · exact okm3 y hy
            · rw [List.mem_singleton.mp hy]
              exact ⟨hi, okr, okm.s0, okm.s1, hjn⟩
          · have := congrArg List.length z
            rw [List.length_append] at this
            simp at this
      · have hp2 : ¬ mv.place = old := fun z => hp (by rw [z]; exact decide_eq_true rfl)
        refine ⟨⟨_, _, _, _, _, rfl⟩, tw2.mono (by omega) (by omega) (by omega) fun z => z.imp id fun ⟨l, y, hl, hy, hyp⟩ => ⟨l, y, ?_, hy, hyp⟩⟩
        have : l ≠ k := fun e => by
          rw [e, hmk] at hy
          cases hy
          exact hp2 hyp
        omega
    · -- the goals
      rintro σ H2 ⟨⟨x11, x12, x13, x14, x15, rfl⟩, tw2⟩
      refine ⟨_, rfl, a, _, rfl, (lwT tw2).gg, g0, rfl, ⟨_, Evl.sq_of (lwT tw2).g⟩, ?_⟩
      refine for_it (walk_list (xs := gs0)) (fun k σ H' => (∃ x11 x12 x13 x14 x15, σ = [some (.ref p), some (.ref a), x2, some (.int pl), x4, x5, some (.ref og), some (.ref m), some (.ref g), some (.int (i : Nat)), some (.int (old : Nat)), x11, x12, x13, x14, x15]) ∧ Tw K p c H0 og m g os (n + 20 + 160 * i + 135 + 10 * k) (13 * i + 13) (2 * i + k) (∃ j, ∃ y ∈ B.moves, j < i + 1 ∧ os[j]? = some y.place) H')
        ⟨⟨_, _, _, _, _, rfl⟩, tw2.mono (by omega) (by omega) (by omega) ?_⟩ (fun k σ H' _ t => Evl.sq_of (lwT t.2).g) ?_ ?_
      · rintro ⟨j, y, hy, hj, hjy⟩
        by_cases e : j < i
        · exact .inl ⟨j, y, hy, e, hjy⟩
        · have : j = i := by omega
          subst this
          rw [hoi] at hjy
          obtain ⟨l, hl, hly⟩ := List.getElem_of_mem hy
          exact .inr ⟨l, y, by omega, by rw [List.getElem?_eq_getElem hl, hly], (Option.some.inj hjy).symm⟩
      · rintro k x σ H3 H3' hk ⟨⟨x11, x12, x13, x14, x15, rfl⟩, tw3⟩ ⟨rfl, hx⟩
        have hgk : B.goals[k]? = some (B.goals[k]'(by omega)) := List.getElem?_eq_getElem (by omega)
        have okg := oB.g _ (List.getElem_mem (l := B.goals) (by omega : k < B.goals.length))
        generalize B.goals[k]'(by omega) = gw at hgk okg
        obtain ⟨xa, cv, rfl, sx, dcv⟩ := gw_tup ((lwT tw3).ag.2 k x _ hx (by rw [List.getElem?_map, hgk]; rfl))
        refine ⟨_, rfl, xa, _, 0, _, rfl, rfl, sx, rfl, _, rfl, rfl, _, rfl, ?_⟩
        refine ite2 (fun hp => ?_) fun hp => ?_
        · obtain ⟨b3, p3, og3, ms, mvs, gs, gws, hm3, am3, hg3, ag3, lm3, lg3, okm3, okg3, ne3⟩ := tw3
          refine ⟨_, rfl, .inl ⟨rfl, _, Evl.sq_of hg3⟩, _, rfl, _, rfl, _, rfl, xa, _, 1, _, rfl, rfl, sx, rfl, p, c, _, cv, gw.cds, rfl, p3, by omega, dcv, okg.c, fun H4 rv rcs b4 p4 dr okr => ⟨(by show 2 ≤ sizeLine; decide), fun T hT => ?_⟩⟩
          have k4 := p3.kp (K := K) b4
          have eT := Ex.new (o := .tup [.int (i : Nat), rv]) hT
          have kall := k4.trans (Kp.ex eT)
          have hg6 := kall.l _ _ hg3
          have lengs : gs.length < 1000 := by
            rw [ag3.1, List.length_map]
            omega
          refine ⟨g, gs, _, rfl, rfl, hg6, Evl.sz_lt (by omega), ⟨_, _, _, _, _, rfl⟩, ((b3.trans b4).trans (.of eT)).mut hg0, ((p4.ex eT).lst ⟨_, hg6⟩ ncg).mono (by omega), ?_, ms, mvs, gs ++ [.ref T], gws ++ [⟨i, rcs⟩], ?_, (am3.tk kall.t).tk (.up hg6 noTup_lst), upd_same, ?_, lm3, by rw [List.length_append, List.length_singleton]; omega, okm3, fun y hy => ?_, ne3⟩
          · rw [upd_ne n2]
            exact kall.l _ _ og3
          · rw [upd_ne n3]
            exact kall.l _ _ hm3
          · rw [List.map_append]
            refine ((ag3.tk kall.t).app (.one ?_)).tk (.up hg6 noTup_lst)
            exact Dt.mk (Evl.st_of upd_same) (.cons (.int _) (.one (dr.tk (.ex eT))))
          · rcases List.mem_append.mp hy with hy | hy
            · exact okg3 y hy
            · rw [List.mem_singleton.mp hy]
              exact ⟨hi, okr⟩
        · exact ⟨⟨_, _, _, _, _, rfl⟩, tw3.mono (by omega) (by omega) (by omega) id⟩
      · rintro σ H3 ⟨⟨x11, x12, x13, x14, x15, rfl⟩, tw3⟩
        exact ⟨⟨_, _, _, _, _, _, _, rfl⟩, tw3.mono (by omega) (by omega) (by omega) id⟩
  · -- the dict
    rintro σ H1 ⟨⟨x9, x10, x11, x12, x13, x14, x15, rfl⟩, tw⟩ R hR
    rw [List.length_map] at tw
    have lw1 := lwT tw
    obtain ⟨b1, p1, og1, ms, mvs, gs, gws, hm1, am1, hg1, ag1, lm1, lg1, okm1, okg1, ne1⟩ := tw
    have eR : Ex H1 (upd H1 R (.dK [])) := Ex.new hR
    refine ⟨_, rfl, og, rfl, ⟨_, Evl.sq_of (eR _ _ og1)⟩, fun D hD => ?_⟩
    refine lc_filt hD (walk_list (xs := os.map fun o : Nat => V.int o)) (by rw [List.length_map]; omega) (fun j => os[j]?.bind fun o => some (.int (B.sides.getD o 0))) (fun H' e => Evl.sq_of (e _ _ (eR _ _ og1))) ?_ ?_
    · rintro j y H2 H2' kk k0 hj e2 ⟨rfl, hy⟩ k1 k2
      rw [List.length_map] at hj
      rw [List.getElem?_map, List.getElem?_eq_getElem hj] at hy
      cases hy
      have hoj : os[j]? = some os[j] := List.getElem?_eq_getElem hj
      have hlt : os[j] < pl := hos _ (List.getElem_mem hj)
      generalize os[j] = oj at hoj hlt
      rw [hoj] at k1
      have lw2 := lw1.ex (eR.trans e2)
      refine ⟨rfl, _, rfl, a, _, rfl, lw2.gs, _, rfl, s0, _, (oj : Nat), _, rfl, rfl, Evl.sq_of lw2.s, atI_nat (v := .int (B.sides.getD oj 0)) ?_, k1 _ _ rfl (.refl _)⟩
      rw [List.getElem?_map, List.getElem?_eq_getElem (by omega), List.getD_eq_getElem?_getD, List.getElem?_eq_getElem (by omega)]
      rfl
    · intro H2 e2 hl2
      have esd : (List.range (os.map fun o : Nat => V.int o).length).filterMap (fun j => os[j]?.bind fun o => some (V.int (B.sides.getD o 0))) = (os.map fun o => B.sides.getD o 0).map V.int := by
        rw [List.length_map, fm_at, List.map_map]
        exact fm_map fun _ _ => rfl
      rw [esd] at hl2
      have e12 := eR.trans e2
      refine ⟨_, rfl, _, rfl, p, c, m, _, ms, rfl, p1.ex e12, by omega, .inl (Evl.sq_of (e12 _ _ hm1)), by rw [am1.1, List.length_map]; omega, fun H3 sl ys b3 p3 hsl0 hsl pm => ?_⟩
      have k3 := (p1.ex e12).kp (K := K) b3
      obtain ⟨mvs2, pm2, am2⟩ := al_perm pm (Al.of_dt ((am1.tk (.ex e12)).tk k3.t))
      have nRp : R ≠ p := fun z => p1.pn (by rw [← z]; exact hR)
      have hR3 : H3 R = some (.dK []) := b3 _ _ nRp (e2 _ _ upd_same)
      refine ⟨_, rfl, hR3, bookD D sl g, rfl, (by show 3 ≤ 15; decide), ?_⟩
      have b13 : But p H1 H3 := (But.of e12).trans b3
      have nR : ∀ {x : Addr} {xs : List V}, H3 x = some (.lst xs) → x ≠ R := fun h z => by rw [z, hR3] at h; cases h
      have bF : But p H0 (upd H3 R (.dK (bookD D sl g))) := by
        have hR0 : H0 R = none := by
          cases q : H0 R with
          | none => rfl
          | some o => rw [b1 _ _ nRp q] at hR; cases hR
        exact (b1.trans b13).mut hR0
      have tkF : TupK K H3 (upd H3 R (.dK (bookD D sl g))) := .up hR3 noTup_dK
      have hD3 := k3.l _ _ hl2
      have hg3 := k3.l _ _ (e12 _ _ hg1)
      refine q _ _ ⟨os.map fun o => B.sides.getD o 0, mvs2, gws⟩ bF ?_ ⟨R, D, sl, g, ys, gs, rfl, upd_same, by rw [upd_ne (nR hD3)]; exact hD3, by rw [upd_ne (nR hsl)]; exact hsl, by rw [upd_ne (nR hg3)]; exact hg3, am2.to_dt.tk tkF, ((ag1.tk (.ex e12)).tk k3.t).tk tkF⟩ ?_
      · obtain ⟨ns, x1, x2, x3, x4, h1, h2, h3⟩ := p3.mono (m := n + 1990) (by rw [am1.1, List.length_map]; omega)
        exact ⟨ns, x1, x2, x3, x4, by rw [upd_ne (Ne.symm nRp)]; exact h1, by rw [upd_ne (nR h2)]; exact h2, h3⟩
      · refine ⟨by show 1 ≤ (os.map _).length; rw [List.length_map]; omega, by show (os.map _).length ≤ 7; rw [List.length_map]; omega, fun x hx => ?_, by show mvs2.length ≤ _; rw [pm2.length_eq]; omega, ?_, by show gws.length ≤ 14; omega, fun x hx => ?_, fun x hx => ?_⟩
        · obtain ⟨o, ho, rfl⟩ := List.mem_map.mp hx
          have hlt : o < B.sides.length := by rw [← epl]; exact hos o ho
          refine oB.s _ ?_
          rw [List.getD_eq_getElem?_getD, List.getElem?_eq_getElem hlt]
          exact List.getElem_mem hlt
        · intro z
          have z2 : mvs2.length = 0 := congrArg List.length z
          rw [pm2.length_eq] at z2
          refine ne1 ?_ (List.eq_nil_of_length_eq_zero z2)
          obtain ⟨y, hy⟩ := List.exists_mem_of_ne_nil _ oB.m2
          obtain ⟨j, hj, ej⟩ := List.getElem_of_mem (hall y.place (by rw [epl]; exact (oB.m y hy).p))
          exact ⟨j, y, hy, hj, by rw [List.getElem?_eq_getElem hj, ej]⟩
        · show x.OkB (os.map _).length 5 6
          rw [List.length_map]
          exact okm1 x (pm2.mem_iff.mp hx)
        · show x.OkB (os.map _).length 5 6
          rw [List.length_map]
          exact okg1 x hx
end
section
variable {P : Program} {w : World} {K : PySem.W.Frag} {mg : Str → Option Value} (E : Ctx w K mg)
include E
theorem rd__law_twin (vs : List V) (H : Hp) (Q : VK) (E0 : XK) (h : sp__law_twin w K vs H Q E0) : vs.length = 3 ∧ t__law_twin P w K { nx := fun _ H' => Q .non H', rt := Q } (start N__law_twin vs) H := by
  obtain ⟨p, c, n, mo, v, B, rfl, pen, hn, ⟨a, s0, m0, g0, ms0, gs0, rfl, lw⟩, oB, hmo, q⟩ := h
  have b1 := oB.n1
  have b2 := oB.n2
  have lenS : (B.sides.map V.int).length = B.sides.length := List.length_map _
  refine ⟨rfl, _, rfl, a, _, rfl, lw.gs, _, _, rfl, .inl ⟨_, Evl.sq_of lw.s, rfl⟩, ?_⟩
  rw [lenS]
  -- again
  refine ⟨_, rfl, _, rfl, (mo : Nat), 1, rfl, rfl, p, c, n, _, rfl, pen, by omega, by omega, by omega, fun H1 ag bb1 p1 ag0 ag1 => ?_⟩
  obtain ⟨an, rfl⟩ : ∃ an : Nat, ag = (an : Int) := ⟨ag.toNat, by omega⟩
  refine ⟨_, rfl, by omega, by omega, ?_⟩
  rw [Int.toNat_natCast]
  intro D hD
  have ncD : c ≠ D := fun z => p1.cn (by rw [z]; exact hD)
  refine lc_map (· = p) (fun a z => by rw [z]; exact p1.pn) hD (walk_range (lo := 0) (n := an)) (by omega) (fun i v H' => ∃ o : Nat, v = .int o ∧ o < B.sides.length) (fun i H' => Pen H' p c (n + 1 + i)) (fun _ _ _ _ => trivial) (p1.ex (Ex.new hD)) (fun _ _ _ _ _ _ z => z) (fun i H' zs hl e pn => pn.lst hl ncD) (fun _ _ _ _ _ _ _ _ _ _ z => z) ?_ ?_
  · rintro i y H2 H2' kk hi hl e pn ⟨rfl, hy⟩ k1
    refine ⟨rfl, _, rfl, _, rfl, p, c, n + 1 + i, _, rfl, pn, by omega, by omega, by omega, fun H3 o b3 p3 o0 o1 => ?_⟩
    obtain ⟨on, rfl⟩ : ∃ on : Nat, o = (on : Int) := ⟨o.toNat, by omega⟩
    exact k1 _ H3 b3.frm ⟨on, rfl, by omega⟩ p3
  · intro acc H2 e2 hl2 len2 z2 p2
    obtain ⟨agn, ala⟩ := al_exists (R := fun v (o : Nat) => v = .int o ∧ o < B.sides.length) z2
    have eacc : acc = agn.map fun o : Nat => V.int o := by
      refine List.ext_getElem? fun i => ?_
      rw [List.getElem?_map]
      cases q : acc[i]? with
      | none =>
        rw [List.getElem?_eq_none]
        · rfl
        · rw [← ala.1]
          exact List.getElem?_eq_none_iff.mp q
      | some v =>
        obtain ⟨y, h1, h2, _⟩ := ala.get q
        rw [h1, h2]
        rfl
    have lag : agn.length = an := by rw [← ala.1, len2]
    have okag : ∀ o ∈ agn, o < B.sides.length := fun o ho => by
      obtain ⟨i, hi, rfl⟩ := List.getElem_of_mem ho
      obtain ⟨v, _, _, h⟩ := ala.at (List.getElem?_eq_getElem hi)
      exact h
    subst eacc
    have b12 : But p H H2 := bb1.trans e2.but
    -- origin
    refine ⟨_, rfl, _, rfl, _, rfl, ⟨by omega, by omega, by omega, by omega, by omega⟩, fun L1 hL1 => ?_⟩
    have f1 := Ex.new (o := .lst (rgV 0 (B.sides.length : Nat))) hL1
    have erg : rgV 0 (B.sides.length : Nat) = (List.range B.sides.length).map fun o : Nat => V.int o := by
      unfold rgV
      rw [Int.sub_zero, Int.toNat_natCast]
      exact List.map_congr_left fun i _ => congrArg V.int (Int.zero_add _)
    refine ⟨_, rfl, L1, D, _, _, rfl, rfl, upd_same, f1 _ _ hl2, Evl.sz_of (by rw [rgV_length, List.length_map]; omega), fun L2 hL2 => ?_⟩
    have f2 := Ex.new (o := .lst (rgV 0 (B.sides.length : Nat) ++ agn.map fun o : Nat => V.int o)) hL2
    refine ⟨p, c, L2, _, _, rfl, p2.ex (f1.trans f2), by omega, .inl (Evl.sq_of upd_same), by rw [List.length_append, rgV_length, List.length_map]; omega, fun H3 og ys b3 p3 hog0 hog pm => ?_⟩
    rw [erg, ← List.map_append] at pm
    obtain ⟨os, pmo, ao⟩ := al_perm (R := fun v (o : Nat) => v = .int o) (ys := List.range B.sides.length ++ agn) pm ⟨List.length_map _, fun i v y h1 h2 => by
      rw [List.getElem?_map, h2] at h1
      cases h1
      rfl⟩
    have eys : ys = os.map fun o : Nat => V.int o := by
      refine List.ext_getElem? fun i => ?_
      rw [List.getElem?_map]
      cases q : ys[i]? with
      | none =>
        rw [List.getElem?_eq_none]
        · rfl
        · rw [← ao.1]
          exact List.getElem?_eq_none_iff.mp q
      | some v =>
        obtain ⟨y, h1, h2⟩ := ao.get q
        rw [h1, h2]
        rfl
    subst eys
    refine ⟨(by show 0 ≤ sizeLine; decide), fun m hm => ⟨(by show 0 ≤ sizeLine; decide), fun g hg => ⟨_, _, _, rfl, ?_⟩⟩⟩
    have fm := Ex.new (o := .lst []) hm
    have fg := Ex.new (o := .lst []) hg
    have b03 : But p H H3 := (b12.trans (.of (f1.trans f2))).trans b3
    have fr : ∀ {H' : Hp} {x : Addr}, But p H H' → Pen H' p c 0 ∨ H' p ≠ none → H' x = none → H x = none := fun b hp hx => by
      rename_i H' x
      cases q : H x with
      | none => rfl
      | some o =>
        by_cases z : x = p
        · rw [z] at hx
          exact absurd hx (hp.elim (fun z => z.pn) id)
        · rw [b _ _ z q] at hx
          cases hx
    have f12 := f1.trans f2
    have hog00 : H og = none := fr (b12.trans (.of f12)) (.inr (p2.ex f12).pn) hog0
    have hm0 : H m = none := fr b03 (.inr p3.pn) hm
    have hg0 : H g = none := fr (b03.trans (.of fm)) (.inr (p3.ex fm).pn) hg
    have n1 : og ≠ m := ne_of_none hog hm
    have n2 : og ≠ g := ne_of_none (fm _ _ hog) hg
    have n3 : m ≠ g := fun z => by rw [← z, upd_same] at hg; cases hg
    have lo : os.length = B.sides.length + an := by
      rw [pmo.length_eq, List.length_append, List.length_range, lag]
    have e4 := fm.trans fg
    refine twin_3 (P := P) (n := n + 1 + an) (os := os) (B := B) (Pen.mono (by omega) pen) (by omega) lw oB rfl (by omega) (by omega) (fun o ho => ?_) (fun t ht => pmo.mem_iff.mpr (List.mem_append.mpr (.inl (List.mem_range.mpr ht)))) hog00 hm0 hg0 n1 n2 n3 ⟨b03.trans (.of e4), (p3.ex e4).mono ?_, e4 _ _ hog, [], [], [], [], fg _ _ upd_same, .nil, upd_same, .nil, Nat.le_refl _, Nat.le_refl _, fun x hx => (by cases hx), fun x hx => (by cases hx), fun z => z.elim⟩ fun H' x C b pn lwc oc => q H' x C b (pn.mono (by omega)) lwc ?_
    · rcases List.mem_append.mp (pmo.mem_iff.mp ho) with h | h
      · exact List.mem_range.mp h
      · exact okag o h
    · rw [List.length_append, rgV_length, List.length_map]
      omega
    · exact ⟨oc.n1, oc.n2, oc.s, Nat.le_trans oc.m1 (Nat.mul_le_mul_left _ (by omega)), oc.m2, oc.g1, oc.m, oc.g⟩
end
theorem ok__law_twin {P : Program} {w : World} {K : PySem.W.Frag} {mg : Str → Option Value} {base : Heap} (E : Ctx w K mg) : DefOk P w K mg base "_law_twin" [("_law_pen_here" : Str), ("_law_book" : Str), ("_law_most" : Str)] 4 (sp__law_twin w K) := by
  obtain ⟨fd, F⟩ := E.D__law_twin
  exact ⟨_, fd, fn_mk (t := t__law_twin P w K) F sc__law_twin (rd__law_twin E) (fun cdv A outer s H E0 hr => (pss_cons (ps_set (i := 3) sc__law_twin.nd rfl (Or.inr rfl) (pe_callB call_len (by rfl) E.f_len (by decide +kernel) (pa_cons (pe_dget (hu_of hr) (pv 1) pe_str (fun _ _ => rfl)) pa_nil)))
    (pss_cons (ps_setLc (i := 4) (own := [("_law_lap", 5)]) (wi := (iRng1 (tCons (tFn (sp__law_draw w K) (tCons (tVar 0) (tCons (tOp rAddI (tVar 2) (tC (.int 1))) tNil))) tNil))) (g := (gName 5)) (tt := tYes) (te := (tFn (sp__law_draw w K) (tCons (tVar 0) (tCons (tVar 3) tNil)))) rfl sc__law_twin.nd rfl rfl (sw_true rfl rfl rfl (by decide +kernel)) (pi_range1 (by rfl) E.f_range (pa_cons (pe_fn (ok__law_draw E) (hr.mono (by decide)) (by rfl) (pa_cons (pv 0) (pa_cons (pe_op op_add (pv 2) pe_int) pa_nil))) pa_nil)) (blkOk_by (own := [("_law_lap", 5)]) (N := N__law_twin) (sc := defScope s__law_twin) (by decide +kernel)) (fun _ _ _ _ _ => (pg_name (i := 5) sc__law_twin.nd rfl (Or.inl rfl))) (fun _ _ _ _ _ => pts_nil) (fun _ _ _ _ _ => (pe_fn (ok__law_draw E) (hr.mono (by decide)) (by rfl) (pa_cons (pv 0) (pa_cons (pv 3) pa_nil)))))
    (pss_cons (ps_par3 (i := 6) (j := 7) (l := 8) rfl sc__law_twin.nd rfl rfl rfl (by decide) (by decide) (by decide) rfl rfl rfl (pa_cons (pe_fn (ok__law_shuffled E) (hr.mono (by decide)) (by rfl) (pa_cons (pv 0) (pa_cons (pe_op op_cat (pe_listRg rfl (by rfl) E.f_list (prg_1 (by rfl) E.f_range (pv 3))) (pv 4)) pa_nil))) (pa_cons (pe_lst pa_nil) (pa_cons (pe_lst pa_nil) pa_nil))) rfl)
    (pss_cons (ps_for PassesOwn.never rfl (pi_enumS (by rfl) E.f_enumerate (pa_cons (pv 6) pa_nil)) (pg_tup rfl (pgs_cons (pg_name (i := 9) sc__law_twin.nd rfl (Or.inl rfl)) (pgs_cons (pg_name (i := 10) sc__law_twin.nd rfl (Or.inl rfl)) pgs_nil)))
    (pss_cons (ps_for PassesOwn.never rfl (pi_list (pe_dget (hu_of hr) (pv 1) pe_str (fun _ _ => rfl))) (pg_name (i := 11) sc__law_twin.nd rfl (Or.inr rfl))
    (pss_one (ps_if (pt_cmpR op_eq (pe_ix ix_tup (pv 11) pe_int (fun _ _ => rfl)) (pv 10) (nomark _))
    (pss_cons (ps_setLc (i := 12) (own := [("_law_at", 13), ("_law_one", 14)]) (wi := (iEnumS K (tCons (tVar 6) tNil))) (g := (gTup K 2 (gCons (gName 13) (gCons (gName 14) gNil)))) (tt := (tTest (tOp rEq (tVar 14) (tOp (rIxT K) (tVar 11) (tC (.int 3)))))) (te := (tVar 13)) rfl sc__law_twin.nd rfl rfl (sw_true rfl rfl rfl (by decide +kernel)) (pi_enumS (by rfl) E.f_enumerate (pa_cons (pv 6) pa_nil)) (blkOk_by (own := [("_law_at", 13), ("_law_one", 14)]) (N := N__law_twin) (sc := defScope s__law_twin) (by decide +kernel)) (fun _ _ _ _ _ => (pg_tup rfl (pgs_cons (pg_name (i := 13) sc__law_twin.nd rfl (Or.inl rfl)) (pgs_cons (pg_name (i := 14) sc__law_twin.nd rfl (Or.inl rfl)) pgs_nil)))) (fun _ _ _ _ _ => (pts_one (pt_cmpR op_eq (pv 14) (pe_ix ix_tup (pv 11) pe_int (fun _ _ => rfl)) (nomark _)))) (fun _ _ _ _ _ => (pv 13)))
    (pss_one (ps_expr (pe_bm PySem.F.plainAttrs_list PySem.F.slot_list_append PySem.F.type_list_append mt_append (pv 7) (pa_cons (pe_tup (pa_cons (pv 9) (pa_cons (pe_fn (ok__law_rewritten E) (hr.mono (by decide)) (by rfl) (pa_cons (pv 0) (pa_cons (pe_ix ix_tup (pv 11) pe_int (fun _ _ => rfl)) pa_nil))) (pa_cons (pe_ix ix_tup (pv 11) pe_int (fun _ _ => rfl)) (pa_cons (pe_fn (ok__law_pick E) (hr.mono (by decide)) (by rfl) (pa_cons (pv 0) (pa_cons (pv 12) pa_nil))) pa_nil))))) pa_nil)))))
    pss_nil)))
    (pss_one (ps_for PassesOwn.never rfl (pi_list (pe_dget (hu_of hr) (pv 1) pe_str (fun _ _ => rfl))) (pg_name (i := 15) sc__law_twin.nd rfl (Or.inl rfl))
    (pss_one (ps_if (pt_cmpR op_eq (pe_ix ix_tup (pv 15) pe_int (fun _ _ => rfl)) (pv 10) (nomark _))
    (pss_one (ps_expr (pe_bm PySem.F.plainAttrs_list PySem.F.slot_list_append PySem.F.type_list_append mt_append (pv 8) (pa_cons (pe_tup (pa_cons (pv 9) (pa_cons (pe_fn (ok__law_rewritten E) (hr.mono (by decide)) (by rfl) (pa_cons (pv 0) (pa_cons (pe_ix ix_tup (pv 15) pe_int (fun _ _ => rfl)) pa_nil))) pa_nil))) pa_nil))))
    pss_nil))))))
    (pss_one (ps_ret (pe_disp (pps_cons pe_str (pe_lc (own := [("_law_old", 10)]) (wi := (iList K (tVar 6))) (g := (gName 10)) (tt := tYes) (te := (tOp (rIxL K) (tDGet (tVar 1) (tC (.str "sides"))) (tVar 10))) rfl sc__law_twin.nd (pi_list (pv 6)) (blkOk_by (own := [("_law_old", 10)]) (N := N__law_twin) (sc := defScope s__law_twin) (by decide +kernel)) (fun _ _ _ _ _ => (pg_name (i := 10) sc__law_twin.nd rfl (Or.inl rfl))) (fun _ _ _ _ _ => pts_nil) (fun _ _ _ _ _ => (pe_ix ix_list (pe_dget (hu_of hr) (pv 1) pe_str (fun _ _ => rfl)) (pv 10) (fun _ _ => rfl)))) (pps_cons pe_str (pe_fn (ok__law_shuffled E) (hr.mono (by decide)) (by rfl) (pa_cons (pv 0) (pa_cons (pv 7) pa_nil))) (pps_cons pe_str (pv 8) pps_nil))) (by rfl) (by rfl) (fun z => by cases z) (by decide))))))))), (FunD.bindsN F (fun _ _ _ _ _ _ us hl => match us, hl with | [_, _, _], _ => rfl)), E.g__law_twin, F.kp⟩
end K28

set_option Elab.async false
set_option linter.all false
set_option maxRecDepth 100000
set_option maxHeartbeats 4000000
namespace K28
open PySem PySem.Spec PyProof.Rows L2
open Evl (Ex)

theorem Bk.OkB.ok {n0 m0 g0 l : Nat} {b : Int} {B : Bk} (h : B.OkB n0 m0 g0 b l) (a1 : n0 ≤ 7) (a2 : m0 ≤ 60) (a3 : g0 ≤ 60) (a4 : b ≤ 9) (a5 : l ≤ 20) : B.Ok where
  n0 := h.n1
  n1 := Nat.le_trans h.n2 a1
  s := h.s
  m1 := Nat.le_trans h.m1 a2
  g1 := Nat.le_trans h.g1 a3
  m := fun m hm => ⟨(h.m m hm).p, ⟨Nat.le_trans (h.m m hm).c.1 a5, fun c hc => (((h.m m hm).c.2 c hc).mono a4).ok⟩, (h.m m hm).s0, (h.m m hm).s1, (h.m m hm).t⟩
  g := fun g hg => ⟨(h.g g hg).p, ⟨Nat.le_trans (h.g g hg).c.1 a5, fun c hc => (((h.g g hg).c.2 c hc).mono a4).ok⟩⟩
theorem DtAll.set {K : PySem.W.Frag} {H : Hp} {α : Type} {g : α → PyData} {xs : List V} {ys : List α} (h : DtAll K H xs (ys.map g)) (j : Nat) {v : V} {y : α} (d : Dt K H v (g y)) : DtAll K H (xs.set j v) ((ys.set j y).map g) := by
  have l := h.1
  rw [List.length_map] at l
  refine ⟨by rw [List.length_set, List.length_map, List.length_set]; exact l, fun i u e a b => ?_⟩
  rw [List.getElem?_map] at b
  by_cases q : j = i
  · subst q
    by_cases lt : j < xs.length
    · rw [List.getElem?_set_self lt] at a
      rw [List.getElem?_set_self (by omega)] at b
      cases a
      cases b
      exact d
    · rw [List.getElem?_eq_none (by rw [List.length_set]; omega)] at a
      cases a
  · rw [List.getElem?_set_ne q] at a b
    exact h.2 i u e a (by rw [List.getElem?_map]; exact b)
theorem DtAll.erase {K : PySem.W.Frag} {H : Hp} {α : Type} {g : α → PyData} {xs : List V} {ys : List α} (h : DtAll K H xs (ys.map g)) (j : Nat) : DtAll K H (xs.eraseIdx j) ((ys.eraseIdx j).map g) := by
  have l := h.1
  rw [List.length_map] at l
  refine ⟨by rw [List.length_map, List.length_eraseIdx, List.length_eraseIdx, l], fun i u e a b => ?_⟩
  rw [List.getElem?_map, List.getElem?_eraseIdx] at b
  rw [List.getElem?_eraseIdx] at a
  by_cases q : i < j
  · rw [if_pos q] at a b
    exact h.2 i u e a (by rw [List.getElem?_map]; exact b)
  · rw [if_neg q] at a b
    exact h.2 (i + 1) u e a (by rw [List.getElem?_map]; exact b)
def sp__law_bent (w : World) (K : PySem.W.Frag) : Sp := fun vs H Q _ => ∃ (p c : Addr) (n : Nat) (v : V) (B : Bk), vs = [.ref p, v] ∧ Pen H p c n ∧ n ≤ 200000 ∧ LwB K H v B ∧ B.OkB 7 52 14 5 6 ∧
  ∀ H' x C, But p H H' → Pen H' p c (n + 10) → LwB K H' x C → C.Ok → Q x H'
def sp__law_near_twin (w : World) (K : PySem.W.Frag) : Sp := fun vs H Q _ => ∃ (p c : Addr) (n : Nat) (v : V) (B : Bk), vs = [.ref p, v, .int 3] ∧ Pen H p c n ∧ n ≤ 50000 ∧ LwB K H v B ∧ B.OkB 4 13 2 3 3 ∧
  ∀ H' x C, But p H H' → Pen H' p c (n + 5000) → LwB K H' x C → C.Ok → Q x H'
def N__law_bent : List Str := ["_law_pen_here", "_law_book", "_law_moves", "_law_goals", "_law_way", "_law_at", "_law_move"]
theorem sc__law_bent : FnScope N__law_bent ["_law_pen_here", "_law_book"] (defScope s__law_bent) := ⟨rfl, rfl, rfl, by decide +kernel, rfl, by decide +kernel, by decide +kernel⟩
/-- names: 0 _law_pen_here 1 _law_book 2 _law_moves 3 _law_goals 4 _law_way 5 _law_at 6 _law_move -/
def t__law_bent (P : Program) (w : World) (K : PySem.W.Frag) : TS :=
    (tSeq (tPar3 2 3 4 (tCons (tCB (rListOf K) (tCons (tDGet (tVar 1) (tC (.str "moves"))) tNil)) (tCons (tCB (rListOf K) (tCons (tDGet (tVar 1) (tC (.str "goals"))) tNil)) (tCons (tFn (sp__law_draw w K) (tCons (tVar 0) (tCons (tC (.int 6)) tNil))) tNil))))
    (tSeq (tAsg (tFn (sp__law_draw w K) (tCons (tVar 0) (tCons (tCB (rLenX K) (tCons (tVar 2) tNil)) tNil))) (gName 5))
    (tSeq (tAsg (tOp (rIxL K) (tVar 2) (tVar 5)) (gName 6))
    (tSeq (tIfS (tTest (tOp rEq (tVar 4) (tC (.int 0))))
    (tAsg (tTup (tCons (tOp (rIxT K) (tVar 6) (tC (.int 0))) (tCons (tOp (rIxT K) (tVar 6) (tC (.int 1))) (tCons (tFn (sp__law_pick w K) (tCons (tVar 0) (tCons (tLst (tCons (tUn rNegI (tC (.int 1))) (tCons (tC (.int 0)) (tCons (tC (.int 1)) tNil)))) tNil))) (tCons (tOp (rIxT K) (tVar 6) (tC (.int 3))) tNil))))) (gSub (tVar 2) (tVar 5) rSetL))
    (tIfS (tTest (tOp rEq (tVar 4) (tC (.int 1))))
    (tAsg (tTup (tCons (tOp (rIxT K) (tVar 6) (tC (.int 0))) (tCons (tOp (rIxT K) (tVar 6) (tC (.int 1))) (tCons (tOp (rIxT K) (tVar 6) (tC (.int 2))) (tCons (tFn (sp__law_draw w K) (tCons (tVar 0) (tCons (tCB (rLenX K) (tCons (tDGet (tVar 1) (tC (.str "sides"))) tNil)) tNil))) tNil))))) (gSub (tVar 2) (tVar 5) rSetL))
    (tIfS (tTest (tOp rEq (tVar 4) (tC (.int 2))))
    (tAsg (tTup (tCons (tOp (rIxT K) (tVar 6) (tC (.int 0))) (tCons (tOp (rCatQ K) (tOp (rIxT K) (tVar 6) (tC (.int 1))) (tTup (tCons (tTup (tCons (tC (.str "not")) (tCons (tOp rSubI (tFn (sp__law_draw w K) (tCons (tVar 0) (tCons (tC (.int 9)) tNil))) (tC (.int 4))) tNil))) tNil))) (tCons (tOp (rIxT K) (tVar 6) (tC (.int 2))) (tCons (tOp (rIxT K) (tVar 6) (tC (.int 3))) tNil))))) (gSub (tVar 2) (tVar 5) rSetL))
    (tIfS (tTest (tOp rEq (tVar 4) (tC (.int 3))))
    (tDrop (tBM K "list" rPopAt (tVar 2) (tCons (tVar 5) tNil)))
    (tIfS (tTest (tOp rEq (tVar 4) (tC (.int 4))))
    (tDrop (tBM K "list" rAppend (tVar 3) (tCons (tTup (tCons (tFn (sp__law_draw w K) (tCons (tVar 0) (tCons (tCB (rLenX K) (tCons (tDGet (tVar 1) (tC (.str "sides"))) tNil)) tNil))) (tCons (tTup (tCons (tTup (tCons (tC (.str "is")) (tCons (tOp rSubI (tFn (sp__law_draw w K) (tCons (tVar 0) (tCons (tC (.int 9)) tNil))) (tC (.int 4))) tNil))) tNil)) tNil))) tNil)))
    (tDrop (tBM K "list" rAppend (tVar 2) (tCons (tVar 6) tNil))))))))
    (tRet (tDisp [((tC (.str "sides")), (tDGet (tVar 1) (tC (.str "sides")))), ((tC (.str "moves")), (tVar 2)), ((tC (.str "goals")), (tVar 3))]))))))
def N__law_near_twin : List Str := ["_law_pen_here", "_law_book", "_law_most", "_law_twin_here"]
theorem sc__law_near_twin : FnScope N__law_near_twin ["_law_pen_here", "_law_book", "_law_most"] (defScope s__law_near_twin) := ⟨rfl, rfl, rfl, by decide +kernel, rfl, by decide +kernel, by decide +kernel⟩
/-- names: 0 _law_pen_here 1 _law_book 2 _law_most 3 _law_twin_here -/
def t__law_near_twin (P : Program) (w : World) (K : PySem.W.Frag) : TS :=
    (tSeq (tAsg (tFn (sp__law_twin w K) (tCons (tVar 0) (tCons (tVar 1) (tCons (tVar 2) tNil)))) (gName 3))
    (tSeq (tIfS (tTest (tOp rGtI (tCB (rLenX K) (tCons (tDGet (tVar 3) (tC (.str "moves"))) tNil)) (tC (.int 39))))
    (tAsg (tFn (sp__law_twin w K) (tCons (tVar 0) (tCons (tVar 1) (tCons (tC (.int 0)) tNil)))) (gName 3))
    tNext)
    (tRet (tIf (tTest (tOp rEq (tFn (sp__law_draw w K) (tCons (tVar 0) (tCons (tC (.int 2)) tNil))) (tC (.int 0)))) (tFn (sp__law_bent w K) (tCons (tVar 0) (tCons (tVar 3) tNil))) (tVar 3)))))
def t__law_bent_4 (P : Program) (w : World) (K : PySem.W.Frag) : TS :=
    (tRet (tDisp [((tC (.str "sides")), (tDGet (tVar 1) (tC (.str "sides")))), ((tC (.str "moves")), (tVar 2)), ((tC (.str "goals")), (tVar 3))]))
theorem ixN_at {n j : Nat} (h : j < n) : ixN n (j : Int) = some j := Evl.ixN_nat h
section
variable {P : Program} {w : World} {K : PySem.W.Frag} {mg : Str → Option Value}
/-- the dict at the end -/
theorem bent_fin {p c a M G : Addr} {n : Nat} {H0 H : Hp} {Q : VK} {B : Bk} {s0 m0 g0 : Addr} {ms0 gs0 ms gs : List V} {mvs : List Mv} {gws : List Gw} {x4 x5 x6 : Option V} (pen0 : Pen H0 p c n) (lw : LwAt K H0 a s0 m0 g0 ms0 gs0 B) (oB : B.OkB 7 52 14 5 6)
    (b : But p H0 H) (pn : Pen H p c (n + 10)) (hM : H M = some (.lst ms)) (hG : H G = some (.lst gs)) (am : DtAll K H ms (mvs.map Mv.d)) (ag : DtAll K H gs (gws.map Gw.d)) (lm : mvs.length ≤ 53) (lg : gws.length ≤ 15)
    (om : ∀ x ∈ mvs, x.OkB B.sides.length 5 7) (og : ∀ x ∈ gws, x.OkB B.sides.length 5 7) (q : ∀ H' x C, But p H0 H' → Pen H' p c (n + 10) → LwB K H' x C → C.Ok → Q x H') :
    tRet (tDisp [((tC (.str "sides")), (tDGet (tVar 1) (tC (.str "sides")))), ((tC (.str "moves")), (tVar 2)), ((tC (.str "goals")), (tVar 3))]) { nx := fun _ H' => Q .non H', rt := Q } [some (.ref p), some (.ref a), some (.ref M), some (.ref G), x4, x5, x6] H := by
  intro R hR
  have eR : Ex H (upd H R (.dK [])) := Ex.new hR
  have lw1 := (lw.but pen0 b).ex eR
  refine ⟨_, rfl, a, _, rfl, lw1.gs, _, rfl, _, rfl, upd_same, bookD s0 M G, rfl, (by show 3 ≤ 15; decide), ?_⟩
  have eF : Ex H (upd (upd H R (.dK [])) R (.dK (bookD s0 M G))) := eR.mut hR
  refine q _ _ ⟨B.sides, mvs, gws⟩ (b.trans (.of eF)) (pn.ex eF) ⟨R, s0, M, G, ms, gs, rfl, upd_same, eF _ _ (lw.but pen0 b).s, eF _ _ hM, eF _ _ hG, am.tk (.ex eF), ag.tk (.ex eF)⟩ ?_
  exact {
    n0 := oB.n1
    n1 := oB.n2
    s := oB.s
    m1 := Nat.le_trans lm (by decide)
    g1 := Nat.le_trans lg (by decide)
    m := fun m hm => ⟨(om m hm).p, ⟨Nat.le_trans (om m hm).c.1 (by decide), fun c hc => (((om m hm).c.2 c hc).mono (by decide)).ok⟩, (om m hm).s0, (om m hm).s1, (om m hm).t⟩
    g := fun g hg => ⟨(og g hg).p, ⟨Nat.le_trans (og g hg).c.1 (by decide), fun c hc => (((og g hg).c.2 c hc).mono (by decide)).ok⟩⟩ }
end
theorem Mv.OkB.mono {n l l' : Nat} {b : Int} {m : Mv} (h : m.OkB n b l) (hl : l ≤ l') : m.OkB n b l' := ⟨h.p, h.c.mono (Int.le_refl _) hl, h.s0, h.s1, h.t⟩
theorem Gw.OkB.mono {n l l' : Nat} {b : Int} {m : Gw} (h : m.OkB n b l) (hl : l ≤ l') : m.OkB n b l' := ⟨h.p, h.c.mono (Int.le_refl _) hl⟩
section
variable {P : Program} {w : World} {K : PySem.W.Frag} {mg : Str → Option Value} (E : Ctx w K mg)
include E
theorem rd__law_bent (vs : List V) (H : Hp) (Q : VK) (E0 : XK) (h : sp__law_bent w K vs H Q E0) : vs.length = 2 ∧ t__law_bent P w K { nx := fun _ H' => Q .non H', rt := Q } (start N__law_bent vs) H := by
  obtain ⟨p, c, n, v, B, rfl, pen, hn, ⟨a, s0, m0, g0, ms, gs, rfl, lw⟩, oB, q⟩ := h
  have m1 := oB.m1
  have g1 := oB.g1
  have sd1 := oB.n1
  have lms : ms.length = B.moves.length := by rw [lw.am.1, List.length_map]
  have lgs : gs.length = B.goals.length := by rw [lw.ag.1, List.length_map]
  have ml : 1 ≤ B.moves.length := List.length_pos_iff.mpr oB.m2
  refine ⟨rfl, _, rfl, a, _, rfl, lw.gm, m0, ms, rfl, .inl (Evl.sq_of lw.m), fun M hM => ?_⟩
  have eM := Ex.new (o := .lst ms) hM
  refine ⟨_, rfl, a, _, rfl, (lw.ex eM).gg, g0, gs, rfl, .inl (Evl.sq_of (lw.ex eM).g), fun G hG => ?_⟩
  have eG := Ex.new (o := .lst gs) hG
  have eMG := eM.trans eG
  have hGn : H G = none := Evl.fresh_back eM hG
  have nMG : M ≠ G := fun z => by rw [← z, upd_same] at hG; cases hG
  have ncM : c ≠ M := fun z => pen.cn (by rw [z]; exact hM)
  have ncG : c ≠ G := fun z => pen.cn (by rw [z]; exact hGn)
  refine ⟨_, rfl, p, c, n, 6, rfl, pen.ex eMG, by omega, by decide, by decide, fun H1 way b1 p1 y0 y1 => ⟨_, _, _, rfl, ?_⟩⟩
  have k1 := (Kp.ex (K := K) eMG).trans ((pen.ex eMG).kp b1)
  have b01 : But p H H1 := (But.of eMG).trans b1
  have hM1 : H1 M = some (.lst ms) := ((pen.ex eMG).kp (K := K) b1).l _ _ (eG _ _ upd_same)
  have hG1 : H1 G = some (.lst gs) := ((pen.ex eMG).kp (K := K) b1).l _ _ upd_same
  refine ⟨_, rfl, _, rfl, _, _, rfl, .inl ⟨_, Evl.sq_of hM1, rfl⟩, p, c, n + 1, _, rfl, p1, by omega, by omega, by omega, fun H2 at_ b2 p2 t0 t1 => ?_⟩
  obtain ⟨j, rfl⟩ : ∃ j : Nat, at_ = (j : Int) := ⟨at_.toNat, by omega⟩
  have hj : j < ms.length := by omega
  have k2 := k1.trans (p1.kp b2)
  have b02 := b01.trans b2
  have hM2 := (p1.kp (K := K) b2).l _ _ hM1
  have hG2 := (p1.kp (K := K) b2).l _ _ hG1
  have am2 := lw.am.tk k2.t
  have ag2 := lw.ag.tk k2.t
  have hmj : B.moves[j]? = some (B.moves[j]'(by omega)) := List.getElem?_eq_getElem (by omega)
  have okm := oB.m _ (List.getElem_mem (l := B.moves) (by omega : j < B.moves.length))
  generalize B.moves[j]'(by omega) = mv at hmj okm
  have hmsj : ms[j]? = some ms[j] := List.getElem?_eq_getElem hj
  have dmv := am2.2 j _ _ hmsj (by rw [List.getElem?_map, hmj]; rfl)
  generalize ms[j] = x at hmsj dmv
  obtain ⟨xa, cv, rfl, sx, dcv⟩ := mv_tup dmv
  refine ⟨_, rfl, _, rfl, M, ms, (j : Nat), _, rfl, rfl, Evl.sq_of hM2, atI_nat hmsj, ?_⟩
  have om0 : ∀ x ∈ B.moves, x.OkB B.sides.length 5 7 := fun x hx => (oB.m x hx).mono (by decide)
  have og0 : ∀ x ∈ B.goals, x.OkB B.sides.length 5 7 := fun x hx => (oB.g x hx).mono (by decide)
  -- a move is put at j
  have setM : ∀ {H3 : Hp} {T : Addr} {cv' : V} {s : Int} {tg : Nat} {cds : List Cd} (x4 x5 x6 : Option V), But p H2 H3 → Pen H3 p c (n + 10) → H3 T = none → Dt K H3 cv' (cdsD cds) → (⟨mv.place, cds, s, tg⟩ : Mv).OkB B.sides.length 5 7 →
      tRet (tDisp [((tC (.str "sides")), (tDGet (tVar 1) (tC (.str "sides")))), ((tC (.str "moves")), (tVar 2)), ((tC (.str "goals")), (tVar 3))]) { nx := fun _ H' => Q .non H', rt := Q } [some (.ref p), some (.ref a), some (.ref M), some (.ref G), x4, x5, x6]
        (upd (upd H3 T (.tup [.int (mv.place : Nat), cv', .int s, .int (tg : Nat)])) M (.lst (ms.set j (.ref T)))) := by
    intro H3 T cv' s tg cds x4 x5 x6 b3 p3 hT dc okn
    have k3 := p2.kp (K := K) b3
    have eT := Ex.new (o := .tup [.int (mv.place : Nat), cv', .int s, .int (tg : Nat)]) hT
    have kT := k3.trans (Kp.ex eT)
    have hM3 := kT.l _ _ hM2
    refine bent_fin (mvs := B.moves.set j ⟨mv.place, cds, s, tg⟩) (gws := B.goals) pen lw oB (((b02.trans b3).trans (.of eT)).mut hM) ((p3.ex eT).lst ⟨_, hM3⟩ ncM) upd_same ?_ ?_ ((ag2.tk kT.t).tk (.up hM3 noTup_lst)) (by rw [List.length_set]; omega) (by omega) (fun y hy => ?_) og0 q
    · rw [upd_ne nMG.symm]
      exact kT.l _ _ hG2
    · exact ((am2.tk kT.t).set (y := (⟨mv.place, cds, s, tg⟩ : Mv)) j (Dt.mk (Evl.st_of upd_same) (.cons (.int _) (.cons (dc.tk (.ex eT)) (.cons (.int _) (.one (.int _))))))).tk (.up hM3 noTup_lst)
    · rcases List.mem_or_eq_of_mem_set hy with hy | hy
      · exact om0 y hy
      · rw [hy]
        exact okn
  refine ⟨_, rfl, rfl, _, rfl, ?_⟩
  refine ite2 (fun _ => ?_) fun _ => ?_
  · refine ⟨_, rfl, xa, _, 0, _, rfl, rfl, sx, rfl, _, rfl, xa, _, 1, _, rfl, rfl, sx, rfl, _, rfl, 1, rfl, (by show 3 ≤ sizeLine; decide), fun L hL => ?_⟩
    have eL := Ex.new (o := .lst [.int (-1), .int 0, .int 1]) hL
    refine ⟨p, c, L, _, _, rfl, p2.ex eL, by omega, .inl (Evl.sq_of upd_same), by simp, by show 3 < 1000000; decide, fun H3 sv b3 p3 hsv => ?_⟩
    have k3 := (Kp.ex (K := K) eL).trans ((p2.ex eL).kp b3)
    obtain ⟨s, rfl, sa, sb⟩ : ∃ s : Int, sv = .int s ∧ -3 ≤ s ∧ s ≤ 3 := by
      simp only [List.mem_cons, List.not_mem_nil, or_false] at hsv
      rcases hsv with rfl | rfl | rfl <;> exact ⟨_, rfl, by decide, by decide⟩
    refine ⟨_, rfl, xa, _, 3, _, rfl, rfl, k3.t _ _ sx, rfl, (by show 4 ≤ sizeLine; decide), fun T hT => ⟨_, rfl, _, rfl, M, ms, (j : Nat), j, rfl, rfl, ?_, ixN_at hj, ?_⟩⟩
    · exact (Ex.new hT) _ _ (k3.l _ _ hM2)
    · exact setM (tg := mv.target) (cds := mv.cds) _ _ _ ((But.of eL).trans b3) (p3.mono (by omega)) hT (dcv.tk k3.t) ⟨okm.p, okm.c.mono (by decide) (by decide), sa, sb, okm.t⟩
  refine ⟨_, rfl, rfl, _, rfl, ?_⟩
  refine ite2 (fun _ => ?_) fun _ => ?_
  · have lw2 := lw.but pen b02
    refine ⟨_, rfl, xa, _, 0, _, rfl, rfl, sx, rfl, _, rfl, xa, _, 1, _, rfl, rfl, sx, rfl, _, rfl, xa, _, 2, _, rfl, rfl, sx, rfl, _, rfl, _, rfl, a, _, rfl, lw2.gs, _, _, rfl, .inl ⟨_, Evl.sq_of lw2.s, rfl⟩, p, c, _, _, rfl, p2, by omega, by rw [List.length_map]; omega, by rw [List.length_map]; have := oB.n2; omega, fun H3 t b3 p3 u0 u1 => ⟨(by show 4 ≤ sizeLine; decide), fun T hT => ?_⟩⟩
    rw [List.length_map] at u1
    obtain ⟨tn, rfl⟩ : ∃ tn : Nat, t = (tn : Int) := ⟨t.toNat, by omega⟩
    have k3 := p2.kp (K := K) b3
    refine ⟨_, rfl, _, rfl, M, ms, (j : Nat), j, rfl, rfl, (Ex.new hT) _ _ (k3.l _ _ hM2), ixN_at hj, ?_⟩
    exact setM (tg := tn) (cds := mv.cds) _ _ _ b3 (p3.mono (by omega)) hT (dcv.tk k3.t) ⟨okm.p, okm.c.mono (by decide) (by decide), okm.s0, okm.s1, by show tn < _; omega⟩
  refine ⟨_, rfl, rfl, _, rfl, ?_⟩
  refine ite2 (fun _ => ?_) fun _ => ?_
  · refine ⟨_, rfl, xa, _, 0, _, rfl, rfl, sx, rfl, _, rfl, xa, _, 1, _, rfl, rfl, sx, rfl, _, rfl, p, c, _, 9, rfl, p2, by omega, by decide, by decide, fun H3 t b3 p3 u0 u1 => ⟨t, 4, rfl, rfl, (by show 2 ≤ sizeLine; decide), fun T1 hT1 => ⟨(by show 1 ≤ sizeLine; decide), fun T2 hT2 => ?_⟩⟩⟩
    have k3 := p2.kp (K := K) b3
    have f1 := Ex.new (o := .tup [.str "not", .int (t - 4)]) hT1
    have f2 := Ex.new (o := .tup [.ref T1]) hT2
    have k4 := k3.trans (Kp.ex (f1.trans f2))
    obtain ⟨ca, cx, rfl, sc, ac⟩ := dcv.tupD
    have lcx : cx.length = mv.cds.length := by rw [ac.1, List.length_map]
    have oc1 := okm.c.1
    refine ⟨ca, T2, cx, _, rfl, rfl, k4.t _ _ sc, Evl.st_of upd_same, by rw [List.length_singleton]; omega, fun cc H5 e5 s5 => ?_⟩
    have k5 := k4.trans (Kp.ex e5)
    refine ⟨_, rfl, xa, _, 2, _, rfl, rfl, k5.t _ _ sx, rfl, _, rfl, xa, _, 3, _, rfl, rfl, k5.t _ _ sx, rfl, (by show 4 ≤ sizeLine; decide), fun T hT => ⟨_, rfl, _, rfl, M, ms, (j : Nat), j, rfl, rfl, (Ex.new hT) _ _ (k5.l _ _ hM2), ixN_at hj, ?_⟩⟩
    have e345 := (f1.trans f2).trans e5
    refine setM (tg := mv.target) (cds := mv.cds ++ [Cd.ne (t - 4)]) _ _ _ (b3.trans (.of e345)) ((p3.ex e345).mono (by omega)) hT ?_ ⟨okm.p, ⟨?_, fun y hy => ?_⟩, okm.s0, okm.s1, okm.t⟩
    · show Dt K H5 (.ref cc) (.tuple ((mv.cds ++ [Cd.ne (t - 4)]).map Cd.d))
      rw [List.map_append]
      refine Dt.mk s5 ((ac.tk k5.t).app (.one ?_))
      exact (Dt.mk (Evl.st_of (f2 _ _ upd_same)) (.cons (.str _) (.one (.int _)))).tk (.ex e5)
    · show (mv.cds ++ [Cd.ne (t - 4)]).length ≤ 7
      rw [List.length_append, List.length_singleton]
      omega
    · rcases List.mem_append.mp hy with hy | hy
      · exact okm.c.2 y hy
      · rw [List.mem_singleton.mp hy]
        show -5 ≤ t - 4 ∧ t - 4 ≤ 5
        omega
  refine ⟨_, rfl, rfl, _, rfl, ?_⟩
  refine ite2 (fun _ => ?_) fun _ => ?_
  · have hsi : seqIndex? (j : Int) ms.length = some j := by
      unfold seqIndex?
      have h0 : ¬ (j : Int) < 0 := by omega
      rw [if_neg h0]
      have h1 : (decide (0 ≤ (j : Int)) && decide ((j : Int) < (ms.length : Int))) = true := by
        rw [decide_eq_true (by omega), decide_eq_true (by omega)]
        rfl
      rw [if_pos h1]
      rfl
    refine ⟨_, rfl, .inl ⟨rfl, _, Evl.sq_of hM2⟩, _, rfl, M, ms, (j : Nat), j, _, rfl, rfl, hM2, by omega, by omega, hsi, hmsj, ?_⟩
    refine bent_fin (mvs := B.moves.eraseIdx j) (gws := B.goals) pen lw oB (b02.mut hM) ((p2.lst ⟨_, hM2⟩ ncM).mono (by omega)) upd_same ?_ ((am2.erase j).tk (.up hM2 noTup_lst)) (ag2.tk (.up hM2 noTup_lst)) (by have := List.length_eraseIdx_le B.moves j; omega) (by omega) (fun y hy => om0 y (List.mem_of_mem_eraseIdx hy)) og0 q
    rw [upd_ne nMG.symm]
    exact hG2
  refine ⟨_, rfl, rfl, _, rfl, ?_⟩
  refine ite2 (fun _ => ?_) fun _ => ?_
  · have lw2 := lw.but pen b02
    refine ⟨_, rfl, .inl ⟨rfl, _, Evl.sq_of hG2⟩, _, rfl, _, rfl, a, _, rfl, lw2.gs, _, _, rfl, .inl ⟨_, Evl.sq_of lw2.s, rfl⟩, p, c, _, _, rfl, p2, by omega, by rw [List.length_map]; omega, by rw [List.length_map]; have := oB.n2; omega, fun H3 t b3 p3 u0 u1 => ?_⟩
    rw [List.length_map] at u1
    obtain ⟨tn, rfl⟩ : ∃ tn : Nat, t = (tn : Int) := ⟨t.toNat, by omega⟩
    refine ⟨_, rfl, p, c, _, 9, rfl, p3, by omega, by decide, by decide, fun H4 z b4 p4 z0 z1 => ⟨z, 4, rfl, rfl, (by show 2 ≤ sizeLine; decide), fun T1 hT1 => ⟨(by show 1 ≤ sizeLine; decide), fun T2 hT2 => ⟨(by show 2 ≤ sizeLine; decide), fun T hT => ?_⟩⟩⟩⟩
    have k4 := (p2.kp (K := K) b3).trans (p3.kp b4)
    have f1 := Ex.new (o := .tup [.str "is", .int (z - 4)]) hT1
    have f2 := Ex.new (o := .tup [.ref T1]) hT2
    have f3 := Ex.new (o := .tup [.int (tn : Nat), .ref T2]) hT
    have fall := (f1.trans f2).trans f3
    have kall := k4.trans (Kp.ex fall)
    have hG5 := kall.l _ _ hG2
    refine ⟨G, gs, _, rfl, rfl, hG5, Evl.sz_lt (by omega), ?_⟩
    refine bent_fin (mvs := B.moves) (gws := B.goals ++ [⟨tn, [.eq (z - 4)]⟩]) pen lw oB ((((b02.trans b3).trans b4).trans (.of fall)).mut hGn) (((p4.ex fall).lst ⟨_, hG5⟩ ncG).mono (by omega)) ?_ upd_same ((am2.tk kall.t).tk (.up hG5 noTup_lst)) ?_ (by omega) (by rw [List.length_append, List.length_singleton]; omega) om0 (fun y hy => ?_) q
    · rw [upd_ne nMG]
      exact kall.l _ _ hM2
    · rw [List.map_append]
      refine ((ag2.tk kall.t).app (.one ?_)).tk (.up hG5 noTup_lst)
      exact Dt.mk (Evl.st_of upd_same) (.cons (.int _) (.one (Dt.mk (Evl.st_of (f3 _ _ upd_same)) (.one (Dt.mk (Evl.st_of (f3 _ _ (f2 _ _ upd_same))) (.cons (.str _) (.one (.int _))))))))
    · rcases List.mem_append.mp hy with hy | hy
      · exact og0 y hy
      · rw [List.mem_singleton.mp hy]
        refine ⟨by show tn < _; omega, by show 1 ≤ 7; decide, fun y hy => ?_⟩
        rw [List.mem_singleton.mp hy]
        show -5 ≤ z - 4 ∧ z - 4 ≤ 5
        omega
  · refine ⟨_, rfl, .inl ⟨rfl, _, Evl.sq_of hM2⟩, _, rfl, M, ms, _, rfl, rfl, hM2, Evl.sz_lt (by omega), ?_⟩
    refine bent_fin (mvs := B.moves ++ [mv]) (gws := B.goals) pen lw oB (b02.mut hM) ((p2.lst ⟨_, hM2⟩ ncM).mono (by omega)) upd_same ?_ ?_ (ag2.tk (.up hM2 noTup_lst)) (by rw [List.length_append, List.length_singleton]; omega) (by omega) (fun y hy => ?_) og0 q
    · rw [upd_ne nMG.symm]
      exact hG2
    · rw [List.map_append]
      exact (am2.app (.one dmv)).tk (.up hM2 noTup_lst)
    · rcases List.mem_append.mp hy with hy | hy
      · exact om0 y hy
      · rw [List.mem_singleton.mp hy]
        exact okm.mono (by decide)
end
theorem ok__law_bent {P : Program} {w : World} {K : PySem.W.Frag} {mg : Str → Option Value} {base : Heap} (E : Ctx w K mg) : DefOk P w K mg base "_law_bent" [("_law_pen_here" : Str), ("_law_book" : Str)] 3 (sp__law_bent w K) := by
  obtain ⟨fd, F⟩ := E.D__law_bent
  exact ⟨_, fd, fn_mk (t := t__law_bent P w K) F sc__law_bent (rd__law_bent E) (fun cdv A outer s H E0 hr => (pss_cons (ps_par3 (i := 2) (j := 3) (l := 4) rfl sc__law_bent.nd rfl rfl rfl (by decide) (by decide) (by decide) rfl rfl rfl (pa_cons (pe_callTy call_list_of (by rfl) E.f_list (by decide +kernel) (pa_cons (pe_dget (hu_of hr) (pv 1) pe_str (fun _ _ => rfl)) pa_nil)) (pa_cons (pe_callTy call_list_of (by rfl) E.f_list (by decide +kernel) (pa_cons (pe_dget (hu_of hr) (pv 1) pe_str (fun _ _ => rfl)) pa_nil)) (pa_cons (pe_fn (ok__law_draw E) (hr.mono (by decide)) (by rfl) (pa_cons (pv 0) (pa_cons pe_int pa_nil))) pa_nil))) rfl)
    (pss_cons (ps_set (i := 5) sc__law_bent.nd rfl (Or.inl rfl) (pe_fn (ok__law_draw E) (hr.mono (by decide)) (by rfl) (pa_cons (pv 0) (pa_cons (pe_callB call_len (by rfl) E.f_len (by decide +kernel) (pa_cons (pv 2) pa_nil)) pa_nil))))
    (pss_cons (ps_set (i := 6) sc__law_bent.nd rfl (Or.inl rfl) (pe_ix ix_list (pv 2) (pv 5) (fun _ _ => rfl)))
    (pss_cons (ps_if (pt_cmpR op_eq (pv 4) pe_int (nomark _))
    (pss_one (ps_asg (pe_tup (pa_cons (pe_ix ix_tup (pv 6) pe_int (fun _ _ => rfl)) (pa_cons (pe_ix ix_tup (pv 6) pe_int (fun _ _ => rfl)) (pa_cons (pe_fn (ok__law_pick E) (hr.mono (by decide)) (by rfl) (pa_cons (pv 0) (pa_cons (pe_lst (pa_cons (pe_un un_neg pe_int) (pa_cons pe_int (pa_cons pe_int pa_nil)))) pa_nil))) (pa_cons (pe_ix ix_tup (pv 6) pe_int (fun _ _ => rfl)) pa_nil))))) (pg_sub (pv 2) (pv 5) set_list)))
    (pss_one (ps_if (pt_cmpR op_eq (pv 4) pe_int (nomark _))
    (pss_one (ps_asg (pe_tup (pa_cons (pe_ix ix_tup (pv 6) pe_int (fun _ _ => rfl)) (pa_cons (pe_ix ix_tup (pv 6) pe_int (fun _ _ => rfl)) (pa_cons (pe_ix ix_tup (pv 6) pe_int (fun _ _ => rfl)) (pa_cons (pe_fn (ok__law_draw E) (hr.mono (by decide)) (by rfl) (pa_cons (pv 0) (pa_cons (pe_callB call_len (by rfl) E.f_len (by decide +kernel) (pa_cons (pe_dget (hu_of hr) (pv 1) pe_str (fun _ _ => rfl)) pa_nil)) pa_nil))) pa_nil))))) (pg_sub (pv 2) (pv 5) set_list)))
    (pss_one (ps_if (pt_cmpR op_eq (pv 4) pe_int (nomark _))
    (pss_one (ps_asg (pe_tup (pa_cons (pe_ix ix_tup (pv 6) pe_int (fun _ _ => rfl)) (pa_cons (pe_op op_catQ (pe_ix ix_tup (pv 6) pe_int (fun _ _ => rfl)) (pe_tup (pa_cons (pe_tup (pa_cons pe_str (pa_cons (pe_op op_sub (pe_fn (ok__law_draw E) (hr.mono (by decide)) (by rfl) (pa_cons (pv 0) (pa_cons pe_int pa_nil))) pe_int) pa_nil))) pa_nil))) (pa_cons (pe_ix ix_tup (pv 6) pe_int (fun _ _ => rfl)) (pa_cons (pe_ix ix_tup (pv 6) pe_int (fun _ _ => rfl)) pa_nil))))) (pg_sub (pv 2) (pv 5) set_list)))
    (pss_one (ps_if (pt_cmpR op_eq (pv 4) pe_int (nomark _))
    (pss_one (ps_expr (pe_bm PySem.F.plainAttrs_list PySem.F.slot_list_pop PySem.F.type_list_pop mt_popAt (pv 2) (pa_cons (pv 5) pa_nil))))
    (pss_one (ps_if (pt_cmpR op_eq (pv 4) pe_int (nomark _))
    (pss_one (ps_expr (pe_bm PySem.F.plainAttrs_list PySem.F.slot_list_append PySem.F.type_list_append mt_append (pv 3) (pa_cons (pe_tup (pa_cons (pe_fn (ok__law_draw E) (hr.mono (by decide)) (by rfl) (pa_cons (pv 0) (pa_cons (pe_callB call_len (by rfl) E.f_len (by decide +kernel) (pa_cons (pe_dget (hu_of hr) (pv 1) pe_str (fun _ _ => rfl)) pa_nil)) pa_nil))) (pa_cons (pe_tup (pa_cons (pe_tup (pa_cons pe_str (pa_cons (pe_op op_sub (pe_fn (ok__law_draw E) (hr.mono (by decide)) (by rfl) (pa_cons (pv 0) (pa_cons pe_int pa_nil))) pe_int) pa_nil))) pa_nil)) pa_nil))) pa_nil))))
    (pss_one (ps_expr (pe_bm PySem.F.plainAttrs_list PySem.F.slot_list_append PySem.F.type_list_append mt_append (pv 2) (pa_cons (pv 6) pa_nil)))))))))))))
    (pss_one (ps_ret (pe_disp (pps_cons pe_str (pe_dget (hu_of hr) (pv 1) pe_str (fun _ _ => rfl)) (pps_cons pe_str (pv 2) (pps_cons pe_str (pv 3) pps_nil))) (by rfl) (by rfl) (fun z => by cases z) (by decide))))))))), (FunD.bindsN F (fun _ _ _ _ _ _ us hl => match us, hl with | [_, _], _ => rfl)), E.g__law_bent, F.kp⟩
section
variable {P : Program} {w : World} {K : PySem.W.Frag} {mg : Str → Option Value} (E : Ctx w K mg)
include E
theorem rd__law_near_twin (vs : List V) (H : Hp) (Q : VK) (E0 : XK) (h : sp__law_near_twin w K vs H Q E0) : vs.length = 3 ∧ t__law_near_twin P w K { nx := fun _ H' => Q .non H', rt := Q } (start N__law_near_twin vs) H := by
  obtain ⟨p, c, n, v, B, rfl, pen, hn, lw, oB, q⟩ := h
  refine ⟨rfl, _, rfl, _, rfl, _, rfl, p, c, n, 3, v, B, rfl, pen, by omega, lw, oB, by decide, fun H1 x C b1 p1 lw1 oC => ?_⟩
  -- bent or not
  have last : ∀ (H2 : Hp) (y : V) (D : Bk), But p H H2 → Pen H2 p c (n + 4500) → LwB K H2 y D → D.OkB 7 52 14 5 6 →
      tRet (tIf (tTest (tOp rEq (tFn (sp__law_draw w K) (tCons (tVar 0) (tCons (tC (.int 2)) tNil))) (tC (.int 0)))) (tFn (sp__law_bent w K) (tCons (tVar 0) (tCons (tVar 3) tNil))) (tVar 3)) { nx := fun _ H' => Q .non H', rt := Q } [some (.ref p), some v, some (.int 3), some y] H2 := by
    intro H2 y D b2 p2 lw2 oD
    refine ⟨_, rfl, p, c, _, 2, rfl, p2, by omega, by decide, by decide, fun H3 i b3 p3 i0 i1 => ⟨rfl, _, rfl, ?_⟩⟩
    have lw3 := lw2.but p2 b3
    refine ite2 (fun _ => ?_) fun _ => ?_
    · exact ⟨_, rfl, _, rfl, p, c, _, y, D, rfl, p3, by omega, lw3, oD, fun H4 z G b4 p4 lw4 oG => q H4 z G ((b2.trans b3).trans b4) (p4.mono (by omega)) lw4 oG⟩
    · exact ⟨_, rfl, q H3 y D (b2.trans b3) (p3.mono (by omega)) lw3 (oD.ok (by decide) (by decide) (by decide) (by decide) (by decide))⟩
  obtain ⟨a, s0, m0, g0, ms, gs, rfl, lw1⟩ := lw1
  have lms : ms.length = C.moves.length := by rw [lw1.am.1, List.length_map]
  refine ⟨_, rfl, a, _, rfl, lw1.gm, _, _, rfl, .inl ⟨_, Evl.sq_of lw1.m, rfl⟩, _, 39, rfl, rfl, _, rfl, ?_⟩
  refine ite2 (fun _ => ?_) fun hle => ?_
  · refine ⟨_, rfl, _, rfl, p, c, _, 0, v, B, rfl, p1, by omega, lw.but pen b1, oB, by decide, fun H2 y D b2 p2 lw2 oD => ?_⟩
    exact last H2 y D (b1.trans b2) (p2.mono (by omega)) lw2 oD
  · have hle2 : C.moves.length ≤ 39 := by
      have z : ¬ (39 : Int) < (ms.length : Nat) := fun z => hle (decide_eq_true z)
      omega
    exact last H1 _ C b1 (p1.mono (by omega)) ⟨a, s0, m0, g0, ms, gs, rfl, lw1⟩ ⟨oC.n1, oC.n2, oC.s, by omega, oC.m2, oC.g1, oC.m, oC.g⟩
end
theorem ok__law_near_twin {P : Program} {w : World} {K : PySem.W.Frag} {mg : Str → Option Value} {base : Heap} (E : Ctx w K mg) : DefOk P w K mg base "_law_near_twin" [("_law_pen_here" : Str), ("_law_book" : Str), ("_law_most" : Str)] 5 (sp__law_near_twin w K) := by
  obtain ⟨fd, F⟩ := E.D__law_near_twin
  exact ⟨_, fd, fn_mk (t := t__law_near_twin P w K) F sc__law_near_twin (rd__law_near_twin E) (fun cdv A outer s H E0 hr => (pss_cons (ps_set (i := 3) sc__law_near_twin.nd rfl (Or.inl rfl) (pe_fn (ok__law_twin E) (hr.mono (by decide)) (by rfl) (pa_cons (pv 0) (pa_cons (pv 1) (pa_cons (pv 2) pa_nil)))))
    (pss_cons (ps_if (pt_cmpR op_gt (pe_callB call_len (by rfl) E.f_len (by decide +kernel) (pa_cons (pe_dget (hu_of hr) (pv 3) pe_str (fun _ _ => rfl)) pa_nil)) pe_int (nomark _))
    (pss_one (ps_set (i := 3) sc__law_near_twin.nd rfl (Or.inl rfl) (pe_fn (ok__law_twin E) (hr.mono (by decide)) (by rfl) (pa_cons (pv 0) (pa_cons (pv 1) (pa_cons pe_int pa_nil))))))
    pss_nil)
    (pss_one (ps_ret (pe_ifExp (pt_cmpR op_eq (pe_fn (ok__law_draw E) (hr.mono (by decide)) (by rfl) (pa_cons (pv 0) (pa_cons pe_int pa_nil))) pe_int (nomark _)) (pe_fn (ok__law_bent E) (hr.mono (by decide)) (by rfl) (pa_cons (pv 0) (pa_cons (pv 3) pa_nil))) (pv 3))))))), (FunD.bindsN F (fun _ _ _ _ _ _ us hl => match us, hl with | [_, _, _], _ => rfl)), E.g__law_near_twin, F.kp⟩
end K28

set_option Elab.async false
set_option linter.all false
set_option maxRecDepth 100000
set_option maxHeartbeats 4000000
namespace K28
open PySem PySem.Spec PyProof.Rows L2
open Evl (Ex)

/-! ## sorted(set(..)) of pairs whose first item may be negative -/
/-- the rank of a pair -/
def rk2 (ns : List Int) : Int := TS.code 64 ns
def PrB (h : Heap) (v : Value) : Prop := ∃ x y : Int, TS.TupInts h v [x, y] ∧ 0 ≤ y ∧ y < 64
section
variable {prog : Program} {w : World} {A : Around} {E : Value → Shared → Prop} {s : Shared}
theorem heads_of {h : Heap} : ∀ us : List Value, (∀ u ∈ us, PrB h u) → ∃ gs, PySem.W.KatTups h us gs ∧ gs.length = us.length ∧ ∀ g ∈ gs, ∃ i k, g = Value.int i k
  | [], _ => ⟨[], PySem.W.KatTups.nil, rfl, fun g hg => by cases hg⟩
  | u :: us, ok => by
    obtain ⟨gs, t, l, a⟩ := heads_of us fun y hy => ok y (List.mem_cons_of_mem _ hy)
    obtain ⟨x, y, ⟨b, its, rfl, ⟨o, ho, hc, n, hd⟩, is⟩, _⟩ := ok u List.mem_cons_self
    generalize hz : its.toList = l0 at is
    cases is with
    | @cons _ k r _ _ =>
      refine ⟨Value.int x k :: gs, PySem.W.KatTups.cons ho hc hd ?_ t, congrArg Nat.succ l, fun g hg => ?_⟩
      · have q := congrArg (fun z : List Value => z[0]?) hz
        simpa using q
      · rcases List.mem_cons.mp hg with rfl | hg
        · exact ⟨x, k, rfl⟩
        · exact a g hg
theorem lex_pr {b : Bool} {us vs : List Value} {x y x' y' : Int} {Q : Bool → Shared → Prop} (h1 : IntsAre us [x, y]) (h2 : IntsAre vs [x', y']) (b1 : 0 ≤ y ∧ y < 64) (b2 : 0 ≤ y' ∧ y' < 64) (q : Q (decide (rk2 [x, y] < rk2 [x', y'])) s) :
    PySem.W.KatLex prog w A b false Q (us.zip vs) 0 s := by
  have e1 : rk2 [x, y] = x * 64 + y := code_pair x y
  have e2 : rk2 [x', y'] = x' * 64 + y' := code_pair x' y'
  cases h1 with
  | @cons _ k us1 _ r1 =>
    cases h2 with
    | @cons _ k' vs1 _ r2 =>
      refine PySem.W.kat_cons (wpAny_eqBool_int ?_)
      by_cases e : x = x'
      · subst e
        rw [beq_self_eq_true]
        refine PySem.W.kat_yes (TS.lex_ints (B := 64) 1 r1 r2 rfl (fun z hz => ?_) (fun z hz => ?_) ?_)
        · rw [List.mem_singleton.mp hz]
          exact b1
        · rw [List.mem_singleton.mp hz]
          exact b2
        · have d : decide (TS.code 64 [y] < TS.code 64 [y']) = decide (rk2 [x, y] < rk2 [x, y']) := decide_eq_decide.mpr (TS.code_same (B := 64) (d := x) (r := [y]) (q := [y']) rfl).symm
          rw [d]
          exact q
      · rw [show (x == x') = false from beq_eq_false_iff_ne.mpr e]
        refine PySem.W.kat_no (TS.oneLt_ints _ ?_)
        have d : decide (rk2 [x, y] < rk2 [x', y']) = decide (x < x') := decide_eq_decide.mpr ⟨fun z => by omega, fun z => by omega⟩
        rw [d] at q
        exact q
theorem kind_pr {us : List Value} (h2 : 2 ≤ us.length) (ok : ∀ u ∈ us, PrB s.heap u) (r : Value → Int) (hr : ∀ u ∈ us, ∀ ns, TS.TupInts s.heap u ns → r u = rk2 ns) (Q : SortKind → Shared → Prop) (q : ∀ κ, TS.Cmp prog w A s κ (pairsOf us) r → Q κ s) :
    wpAny (model prog w) A (keyKind' us.toArray) Q E s := by
  obtain ⟨gs, t, l, a⟩ := heads_of us ok
  refine PySem.W.kat_kind (T := Value.type "int") t (by omega) (fun g hg => ?_) rfl (q _ ?_)
  · obtain ⟨i, k, rfl⟩ := a g hg
    exact PySem.W.Looks.of_pure rfl
  · intro p1 p2 m1 m2 Q2 E2 k
    rw [pairsOf_toList] at m1 m2
    have g1 := (mem_zip_self m1).2
    have g2 := (mem_zip_self m2).2
    obtain ⟨x, y, t1, b1⟩ := ok _ g1
    obtain ⟨x', y', t2, b2⟩ := ok _ g2
    have r1 := hr _ g1 _ t1
    have r2 := hr _ g2 _ t2
    rw [r1, r2] at k
    obtain ⟨c1, i1, q1, ⟨o1, u1, v1, n1, w1⟩, z1⟩ := t1
    obtain ⟨c2, i2, q2, ⟨o2, u2, v2, n2, w2⟩, z2⟩ := t2
    rw [q1, q2]
    refine PySem.W.kat_lt u1 w1 u2 w2 ?_
    have same : decide (i1.size < i2.size) = false := by
      have a1 := z1.length
      have a2 := z2.length
      rw [Array.length_toList] at a1 a2
      exact decide_eq_false (by rw [a1, a2]; exact Nat.lt_irrefl _)
    rw [same]
    exact lex_pr z1 z2 b1 b2 k
/-- list.sort of such pairs -/
theorem sort_pr {a : Addr} {us : List Value} {n : Nat} {Q : Value → Shared → Prop} (ho : s.heap.get? a = some (seqObj "list" us.toArray n)) (few : us.length < 64) (ok : ∀ u ∈ us, PrB s.heap u)
    (q : ∀ out : Array Value, out.toList.Perm us → out.toList.Pairwise (fun u v => rk2 (TS.intsOf s.heap u) ≤ rk2 (TS.intsOf s.heap v)) → Q .none { s with heap := sortedHeap s.heap a us out }) :
    wpAny (model prog w) A (call (.builtin "list.sort") [.ref a]) Q E s := by
  have tupk : ∀ c o, s.heap.get? c = some o → o.cls = .type "tuple" → (TS.midHeap s.heap a us).get? c = some o := fun c o e hc => by
    refine TS.midHeap_old (fun z => ?_) e
    rw [z, ho] at e
    have e' : seqObj "list" us.toArray n = o := Option.some.inj e
    rw [← e'] at hc
    have bad : Value.type "list" = Value.type "tuple" := hc
    injection bad with bad
    exact absurd bad (by decide)
  refine wpAny_call_entry PyProof.Rows.slot_list_sort ⟨_, ho, rfl⟩ PyProof.Rows.entry_list_sort (SK.plain_sort (r := fun v => rk2 (TS.intsOf s.heap v)) ho few (fun h2 Qk hQ => ?_) fun ps out h1 h2 h3 => ⟨_, rfl, ?_⟩) (PyProof.Rows.args_list_sort _)
  · refine kind_pr (s := { s with heap := TS.midHeap s.heap a us }) h2 (fun u hu => ?_) _ (fun u hu ns t => ?_) Qk hQ
    · obtain ⟨x, y, t, b⟩ := ok u hu
      exact ⟨x, y, t.keeps tupk, b⟩
    · obtain ⟨x, y, t0, b⟩ := ok u hu
      have e0 := t0.ints
      have e1 := (t0.keeps tupk).ints
      have e2 := t.ints
      show rk2 (TS.intsOf s.heap u) = rk2 ns
      rw [e0, ← e2]
      exact congrArg rk2 e1.symm
  · obtain ⟨pm, pw⟩ := TS.out_rank (r := fun v => rk2 (TS.intsOf s.heap v)) h1 h2 h3
    exact q out pm pw
/-- sorted of a set of such pairs -/
theorem sorted_pr {a : Addr} {L : List (Addr × List Int)} {es : Array (Int × Value)} {ep : Nat} {t : SetTable} {Q : Value → Shared → Prop} (R : SetTR prog w s.heap a L es ep t) (hh : A.handled = none) (ok : ∀ z ∈ L, ∃ x y : Int, z.2 = [x, y] ∧ 0 ≤ y ∧ y < 64)
    (q : ∀ s' d (out : Array Value) (k : Nat) (M : List (Addr × List Int)), (∀ b o, s.heap.get? b = some o → s'.heap.get? b = some o) → s'.gens = s.gens → s'.os = s.os → s.heap.objs.size ≤ d →
      s'.heap.get? d = some (seqObj "list" out k) → out.toList = M.map (fun z => Value.ref z.1) → M.Perm L → M.Pairwise (fun z y => rk2 z.2 ≤ rk2 y.2) → Q (.ref d) s') :
    wpAny (model prog w) A (call (.builtin "sorted") [.ref a]) Q E s := by
  obtain ⟨o, ho, hex, hd⟩ := R.ob
  have size := R.size
  have few := R.few
  refine Calls.call_function_entry PyProof.Rows.kind_sorted PyProof.Rows.plain_sorted PyProof.Rows.entry_sorted (PyProof.Rows.args_sorted1 _) ?_
  unfold Builtin.«sorted»
  refine wpAny_bind (m := checkCount "sorted" 1 1 _) (wpAny_pure ?_)
  refine wpAny_bind (collect_set (A := A.in1) hh ⟨o, ho, hex.1, hd⟩ R.fits (by unfold scanBound; omega) R.tab.ris R.led fun s2 us keep sz gg oo pm => ?_)
  have rows : es.toList.map (·.2) = L.map fun z => Value.ref z.1 := by
    rw [R.rows]
    unfold rowsOf
    rw [List.map_map] <;> rfl
  rw [rows] at pm
  have back : ∀ us : List Value, (∀ u ∈ us, ∃ z ∈ L, u = Value.ref z.1) → ∃ M : List (Addr × List Int), us = M.map (fun z => Value.ref z.1) ∧ ∀ z ∈ M, z ∈ L := by
    intro us
    induction us with
    | nil => exact fun _ => ⟨[], rfl, fun z hz => by cases hz⟩
    | cons u us ih =>
      intro hu
      obtain ⟨z, hz, e⟩ := hu u List.mem_cons_self
      obtain ⟨M, e1, hM⟩ := ih fun y hy => hu y (List.mem_cons_of_mem _ hy)
      exact ⟨z :: M, by rw [List.map_cons, e, e1], fun y hy => (List.mem_cons.mp hy).elim (fun q => q ▸ hz) (hM y)⟩
  have inj : ∀ z ∈ L, ∀ y ∈ L, z.1 = y.1 → z = y := fun z hz y hy e => by
    have a1 := R.tup z hz
    rw [e] at a1
    exact Prod.ext e (a1.inj (R.tup y hy))
  have lift : ∀ M : List (Addr × List Int), (∀ z ∈ M, z ∈ L) → (M.map fun z => Value.ref z.1).Perm (L.map fun z => Value.ref z.1) → M.Perm L := by
    intro M hM pM
    have nodL : L.Nodup := nodup_of_map R.nd
    have nodR : (L.map fun z => Value.ref z.1).Nodup := List.pairwise_map.mpr (List.Pairwise.imp_of_mem (fun {z y} hz hy ne e => ne (inj z hz y hy (by injection e))) nodL)
    refine (List.perm_ext_iff_of_nodup (nodup_of_map (pM.nodup_iff.mpr nodR)) nodL).mpr fun z => ⟨hM z, fun hz => ?_⟩
    obtain ⟨y, hy, e⟩ := List.mem_map.mp (pM.mem_iff.mpr (List.mem_map.mpr ⟨z, hz, rfl⟩))
    injection e with e
    rw [← inj y (hM y hy) z hz e]
    exact hy
  have short : us.length < 64 := by
    rw [pm.length_eq, List.length_map]
    exact few
  refine wpAny_bind (wpAny_newList ?_ (by rw [sizeLine_eq]; omega))
  have hl : (s2.heap.push (seqObj "list" us.toArray 0)).get? s2.heap.objs.size = some (seqObj "list" us.toArray 0) := Heap.get?_push_size _ rfl
  have tk : ∀ z ∈ L, TS.TupInts (s2.heap.push (seqObj "list" us.toArray 0)) (.ref z.1) z.2 := fun z hz => tupInts_of (P := prog) (w := w) (isT_keep (R.tup z hz) fun b u e => Heap.get?_push_of_some _ (keep b u e))
  refine wpAny_bind (wpAny_holding (sort_pr (s := { s2 with heap := s2.heap.push (seqObj "list" us.toArray 0) }) hl short (fun u hu => ?_) fun out o1 o2 => ?_))
  · obtain ⟨z, hz, e⟩ := List.mem_map.mp (pm.mem_iff.mp hu)
    obtain ⟨x, y, ez, bz⟩ := ok z hz
    rw [← e]
    refine ⟨x, y, ?_, bz⟩
    rw [← ez]
    exact tk z hz
  · obtain ⟨k, hk⟩ := sortedHeap_at (vs := us) (out := out) hl
    obtain ⟨M, eM, hM⟩ := back out.toList fun u hu => by
      obtain ⟨z, hz, e⟩ := List.mem_map.mp (pm.mem_iff.mp (o1.mem_iff.mp hu))
      exact ⟨z, hz, e.symm⟩
    have pML : M.Perm L := lift M hM (by rw [← eM]; exact o1.trans pm)
    have pw : M.Pairwise (fun z y => rk2 z.2 ≤ rk2 y.2) := by
      rw [eM] at o2
      refine List.Pairwise.imp_of_mem (fun {z y} hz hy le => ?_) (List.pairwise_map.mp o2)
      have f1 := (tk z (hM z hz)).ints
      have f2 := (tk y (hM y hy)).ints
      have le2 : rk2 (TS.intsOf (s2.heap.push (seqObj "list" us.toArray 0)) (.ref z.1)) ≤ rk2 (TS.intsOf (s2.heap.push (seqObj "list" us.toArray 0)) (.ref y.1)) := le
      rw [f1, f2] at le2
      exact le2
    refine wpAny_pure ⟨_, rfl, q _ s2.heap.objs.size out k M (fun b u e => ?_) gg oo sz hk eM pML pw⟩
    have e2 := keep b u e
    have lt := Heap.lt_size e2
    show (sortedHeap (s2.heap.push (seqObj "list" us.toArray 0)) s2.heap.objs.size us out).get? b = some u
    rw [sortedHeap_old (Nat.ne_of_lt lt) (by rw [size_push']; exact Nat.lt_succ_of_lt lt)]
    exact Heap.get?_push_of_some _ e2
end
def rSortedP2 (K : PySem.W.Frag) (P : Program) (w : World) : List V → Hp → VK → Prop := fun vs H Q => ∃ (a : Addr) (L : List (Addr × List Int)), vs = [V.ref a] ∧ H a = some (SetTO P w a L) ∧ (∀ z ∈ L, SqT K H z.1 (z.2.map V.int)) ∧ (∀ z ∈ L, ∃ x y : Int, z.2 = [x, y] ∧ 0 ≤ y ∧ y < 64) ∧
  ∀ (M : List (Addr × List Int)) (d : Addr), M.Perm L → (M.map (·.2)).Nodup → M.length < 64 → M.Pairwise (fun z y => rk2 z.2 ≤ rk2 y.2) → H d = none → Q (.ref d) (upd H d (.lst (M.map fun z => V.ref z.1)))
theorem cr_sortedP2 {X : Cx} (hc : X.calm = true) : CallR X (.builtin "sorted") (rSortedP2 X.K X.prog X.w) := fun pins s σ H vs us Q I r h => by
  obtain ⟨a, L, rfl, ha, hk, ok, q⟩ := h
  have R0 : SetT0 X.prog X.w s.heap a L := (I.hok a _ ha).1
  obtain ⟨es, ep, t, R⟩ := R0.full fun z hz => I.isT (hk z hz)
  rw [Vals.ref1 r]
  refine sorted_pr R (I.ok.hd hc) ok fun s' d out k M kp g o hd hg hout pm pw => ?_
  have few : M.length < 64 := by
    rw [pm.length_eq]
    exact R.few
  have free : H d = none := I.hok.fresh hd
  have vv : Vals (M.map fun z => V.ref z.1) out.toList := by
    rw [hout]
    exact vals_of_refs M
  have fit : (M.map fun z => V.ref z.1).length ≤ sizeLine := by
    rw [List.length_map, sizeLine_eq]
    omega
  have J : Inv X pins σ (upd H d (.lst (M.map fun z => V.ref z.1))) { s with heap := s'.heap, gens := s'.gens, drawn := s'.drawn, toks := s'.toks } :=
    I.call (ch := []) (Un.laid kp hd free) (I.hok.laid kp hd ⟨fit, out.toList, k, vv, hg⟩) (by rw [g]; exact I.bare) (fun _ z => nomatch z)
  have e : s' = { s with heap := s'.heap, gens := s'.gens, drawn := s'.drawn, toks := s'.toks } := by
    cases s'
    cases s
    cases o
    rfl
  rw [e]
  exact ⟨.ref d, _, J, rfl, q M d pm ((pm.map (·.2)).nodup_iff.mpr R.nd) few pw free⟩
end K28

set_option Elab.async false
set_option linter.all false
set_option maxRecDepth 100000
set_option maxHeartbeats 4000000
namespace K28
open PySem PySem.Spec PyProof.Rows L2
open Evl (Ex)

def sp__law_holds (w : World) (K : PySem.W.Frag) : Sp := fun vs H Q _ => ∃ (v : V) (cs : List Cd) (n : Int), vs = [v, .int n] ∧ Dt K H v (cdsD cs) ∧ CdsOk cs ∧ Q (.bl (hoAll cs n)) H
def sp__law_open (w : World) (K : PySem.W.Frag) : Sp := fun vs H Q _ => ∃ (v : V) (B : Bk) (p : Nat) (n : Int), vs = [v, .int p, .int n] ∧ LwB K H v B ∧ B.Ok ∧ ∀ H' l, Ex H H' → H l = none → H' l = some (.lst ((B.opn p n).map fun i : Nat => V.int i)) → Q (.ref l) H'
def sp__law_is_goal (w : World) (K : PySem.W.Frag) : Sp := fun vs H Q _ => ∃ (v : V) (B : Bk) (p : Nat) (n : Int), vs = [v, .int p, .int n] ∧ LwB K H v B ∧ B.Ok ∧ ∀ H', Ex H H' → Q (.bl (B.goal p n)) H'
def N__law_holds : List Str := ["_law_conditions", "_law_n", "_law_condition", "_law_word", "_law_k"]
theorem sc__law_holds : FnScope N__law_holds ["_law_conditions", "_law_n"] (defScope s__law_holds) := ⟨rfl, rfl, rfl, by decide +kernel, rfl, by decide +kernel, by decide +kernel⟩
/-- names: 0 _law_conditions 1 _law_n 2 _law_condition 3 _law_word 4 _law_k -/
def t__law_holds (P : Program) (w : World) (K : PySem.W.Frag) : TS :=
    (tSeq (tFor (iTup K (tVar 0)) (gName 2)
    (tSeq (tPar 3 4 (tCons (tOp (rIxT K) (tVar 2) (tC (.int 0))) (tCons (tOp (rIxT K) (tVar 2) (tC (.int 1))) tNil)))
    (tSeq (tIfS (tOr (tAnd (tTest (tOp rEq (tVar 3) (tC (.str "rest")))) (tTest (tOp rNe (tOp rModI (tCB rInt1 (tCons (tOp rSubI (tVar 1) (tOp (rIxT K) (tVar 2) (tC (.int 2)))) tNil)) (tVar 4)) (tC (.int 0))))) (tAnd (tTest (tOp rEq (tVar 3) (tC (.str "least")))) (tTest (tOp rLtI (tVar 1) (tVar 4)))))
    (tRet (tC (.bl false)))
    tNext)
    (tIfS (tOr (tAnd (tTest (tOp rEq (tVar 3) (tC (.str "most")))) (tTest (tOp rGtI (tVar 1) (tVar 4)))) (tOr (tAnd (tTest (tOp rEq (tVar 3) (tC (.str "is")))) (tTest (tOp rNe (tVar 1) (tVar 4)))) (tAnd (tTest (tOp rEq (tVar 3) (tC (.str "not")))) (tTest (tOp rEq (tVar 1) (tVar 4))))))
    (tRet (tC (.bl false)))
    tNext))))
    (tRet (tC (.bl true))))
def N__law_open : List Str := ["_law_book", "_law_place", "_law_n", "_law_found", "_law_index", "_law_move"]
theorem sc__law_open : FnScope N__law_open ["_law_book", "_law_place", "_law_n"] (defScope s__law_open) := ⟨rfl, rfl, rfl, by decide +kernel, rfl, by decide +kernel, by decide +kernel⟩
/-- names: 0 _law_book 1 _law_place 2 _law_n 3 _law_found 4 _law_index 5 _law_move -/
def t__law_open (P : Program) (w : World) (K : PySem.W.Frag) : TS :=
    (tSeq (tAsg (tLst tNil) (gName 3))
    (tSeq (tFor (iEnumS K (tCons (tDGet (tVar 0) (tC (.str "moves"))) tNil)) (gTup K 2 (gCons (gName 4) (gCons (gName 5) gNil)))
    (tIfS (tAnd (tTest (tOp rEq (tOp (rIxT K) (tVar 5) (tC (.int 0))) (tVar 1))) (tB (tFn (sp__law_holds w K) (tCons (tOp (rIxT K) (tVar 5) (tC (.int 1))) (tCons (tVar 2) tNil)))))
    (tDrop (tBM K "list" rAppend (tVar 3) (tCons (tVar 4) tNil)))
    tNext))
    (tRet (tVar 3))))
def N__law_is_goal : List Str := ["_law_book", "_law_place", "_law_n", "_law_goal"]
theorem sc__law_is_goal : FnScope N__law_is_goal ["_law_book", "_law_place", "_law_n"] (defScope s__law_is_goal) := ⟨rfl, rfl, rfl, by decide +kernel, rfl, by decide +kernel, by decide +kernel⟩
/-- names: 0 _law_book 1 _law_place* 2 _law_n* 3 _law_goal -/
def t__law_is_goal (P : Program) (w : World) (K : PySem.W.Frag) : TS :=
    (tRet (tOp (rNeD K) (tLc (iList K (tDGet (tVar 0) (tC (.str "goals")))) (gName 3) (tAnd (tTest (tOp rEq (tOp (rIxT K) (tVar 3) (tC (.int 0))) (tVar 1))) (tB (tFn (sp__law_holds w K) (tCons (tOp (rIxT K) (tVar 3) (tC (.int 1))) (tCons (tVar 2) tNil))))) (tVar 3) [3]) (tLst tNil)))
theorem rest_ho {n m r : Int} (h0 : 0 ≤ r) (h1 : r < m) : decide (n % m = r) = decide ((n - r) % m = 0) := by
  refine decide_eq_decide.mpr ⟨fun e => ?_, fun e => ?_⟩
  · have q : n % m = r % m := by rw [e, Int.emod_eq_of_lt h0 h1]
    exact Int.emod_eq_emod_iff_emod_sub_eq_zero.mp q
  · have q := Int.emod_eq_emod_iff_emod_sub_eq_zero.mpr e
    rw [q, Int.emod_eq_of_lt h0 h1]
theorem hoAll_false {cs : List Cd} {n : Int} {i : Nat} {c : Cd} (h : cs[i]? = some c) (f : c.ho n = false) : hoAll cs n = false := by
  unfold hoAll
  refine Bool.eq_false_iff.mpr fun z => ?_
  have := List.all_eq_true.mp z c (List.mem_of_getElem? h)
  rw [f] at this
  cases this
theorem hoAll_true {cs : List Cd} {n : Int} (h : ∀ (j : Nat) (c : Cd), cs[j]? = some c → c.ho n = true) : hoAll cs n = true := by
  unfold hoAll
  refine List.all_eq_true.mpr fun c hc => ?_
  obtain ⟨j, hj, rfl⟩ := List.getElem_of_mem hc
  exact h j _ (List.getElem?_eq_getElem hj)
section
variable {P : Program} {w : World} {K : PySem.W.Frag} {mg : Str → Option Value} (E : Ctx w K mg)
include E
theorem rd__law_holds (vs : List V) (H : Hp) (Q : VK) (E0 : XK) (h : sp__law_holds w K vs H Q E0) : vs.length = 2 ∧ t__law_holds P w K { nx := fun _ H' => Q .non H', rt := Q } (start N__law_holds vs) H := by
  obtain ⟨v, cs, n, rfl, dt, ok, q⟩ := h
  obtain ⟨a, xs, rfl, s, al⟩ := dt.tupD
  have lx : xs.length = cs.length := by rw [al.1, List.length_map]
  refine ⟨rfl, _, rfl, a, rfl, ⟨_, s⟩, ?_⟩
  refine for_it (walk_tup (xs := xs)) (fun i σ H' => H' = H ∧ (∃ x2 x3 x4, σ = [some (.ref a), some (.int n), x2, x3, x4]) ∧ ∀ j c, j < i → cs[j]? = some c → c.ho n = true) ⟨rfl, ⟨none, none, none, rfl⟩, fun j c hj => absurd hj (Nat.not_lt_zero _)⟩ (fun i σ H' _ z => by rw [z.1]; exact s) ?_ ?_
  · rintro i x σ H1 H1' hi ⟨rfl, ⟨x2, x3, x4, rfl⟩, sofar⟩ ⟨rfl, hx⟩
    have hc0 : cs[i]? = some (cs[i]'(by omega)) := List.getElem?_eq_getElem (by omega)
    have okc := ok.2 _ (List.getElem_mem (l := cs) (by omega : i < cs.length))
    generalize cs[i]'(by omega) = cd at hc0 okc
    have dx := al.2 i x _ hx (by rw [List.getElem?_map, hc0]; rfl)
    obtain ⟨ca, cx, rfl, sc, ac⟩ := dx.tupD
    have no : cd.ho n = false → Q (.bl false) H1' := fun f => by
      rw [hoAll_false hc0 f] at q
      exact q
    have yes : cd.ho n = true → ∀ j c, j < i + 1 → cs[j]? = some c → c.ho n = true := fun t j c hj hc => by
      by_cases e : j < i
      · exact sofar j c e hc
      · have : j = i := by omega
        subst this
        rw [hc0] at hc
        cases hc
        exact t
    cases cd with
    | rs m r =>
      obtain ⟨u, v, z, rfl, d1, d2, d3⟩ := ac.three
      rw [d1.strD, d2.intD, d3.intD] at sc
      obtain ⟨o1, o2, o3, o4⟩ := okc
      refine ⟨_, rfl, ca, _, 0, _, rfl, rfl, sc, rfl, _, rfl, ca, _, 1, _, rfl, rfl, sc, rfl, _, _, rfl, ?_⟩
      refine ⟨_, rfl, rfl, true, rfl, _, rfl, _, rfl, ca, _, 2, _, rfl, rfl, sc, rfl, n, r, rfl, rfl, .inl ⟨_, rfl, _, rfl, _, m, rfl, rfl, (by omega), rfl, _, rfl, ?_⟩⟩
      rw [eqI]
      have e := rest_ho (n := n) o3 o4
      by_cases z : (n - r) % m = 0
      · rw [decide_eq_true z]
        refine ⟨_, rfl, rfl, false, rfl, _, rfl, rfl, false, rfl, _, rfl, rfl, false, rfl, _, rfl, rfl, false, rfl, rfl, ⟨_, _, _, rfl⟩, yes ?_⟩
        show decide (n % m = r) = true
        rw [e, decide_eq_true z]
      · rw [decide_eq_false z]
        refine no ?_
        show decide (n % m = r) = false
        rw [e, decide_eq_false z]
    | le k =>
      obtain ⟨u, v, rfl, d1, d2⟩ := ac.two
      rw [d1.strD, d2.intD] at sc
      refine ⟨_, rfl, ca, _, 0, _, rfl, rfl, sc, rfl, _, rfl, ca, _, 1, _, rfl, rfl, sc, rfl, _, _, rfl, ?_⟩
      refine ⟨_, rfl, rfl, false, rfl, _, rfl, rfl, true, rfl, _, rfl, _, rfl, n, k, rfl, rfl, _, rfl, ?_⟩
      by_cases z : n < k
      · rw [decide_eq_true z]
        exact no (decide_eq_false (by omega))
      · rw [decide_eq_false z]
        exact ⟨_, rfl, rfl, false, rfl, _, rfl, rfl, false, rfl, _, rfl, rfl, false, rfl, rfl, ⟨_, _, _, rfl⟩, yes (decide_eq_true (by omega))⟩
    | mo k =>
      obtain ⟨u, v, rfl, d1, d2⟩ := ac.two
      rw [d1.strD, d2.intD] at sc
      refine ⟨_, rfl, ca, _, 0, _, rfl, rfl, sc, rfl, _, rfl, ca, _, 1, _, rfl, rfl, sc, rfl, _, _, rfl, ?_⟩
      refine ⟨_, rfl, rfl, false, rfl, _, rfl, rfl, false, rfl, _, rfl, rfl, true, rfl, _, rfl, _, rfl, n, k, rfl, rfl, _, rfl, ?_⟩
      by_cases z : k < n
      · rw [decide_eq_true z]
        exact no (decide_eq_false (by omega))
      · rw [decide_eq_false z]
        exact ⟨_, rfl, rfl, false, rfl, _, rfl, rfl, false, rfl, rfl, ⟨_, _, _, rfl⟩, yes (decide_eq_true (by omega))⟩
    | eq k =>
      obtain ⟨u, v, rfl, d1, d2⟩ := ac.two
      rw [d1.strD, d2.intD] at sc
      refine ⟨_, rfl, ca, _, 0, _, rfl, rfl, sc, rfl, _, rfl, ca, _, 1, _, rfl, rfl, sc, rfl, _, _, rfl, ?_⟩
      refine ⟨_, rfl, rfl, false, rfl, _, rfl, rfl, false, rfl, _, rfl, rfl, false, rfl, _, rfl, rfl, true, rfl, _, rfl, _, rfl, rfl, _, rfl, ?_⟩
      rw [eqI]
      by_cases z : n = k
      · rw [decide_eq_true z]
        exact ⟨_, rfl, rfl, false, rfl, rfl, ⟨_, _, _, rfl⟩, yes (decide_eq_true z)⟩
      · rw [decide_eq_false z]
        exact no (decide_eq_false z)
    | ne k =>
      obtain ⟨u, v, rfl, d1, d2⟩ := ac.two
      rw [d1.strD, d2.intD] at sc
      refine ⟨_, rfl, ca, _, 0, _, rfl, rfl, sc, rfl, _, rfl, ca, _, 1, _, rfl, rfl, sc, rfl, _, _, rfl, ?_⟩
      refine ⟨_, rfl, rfl, false, rfl, _, rfl, rfl, false, rfl, _, rfl, rfl, false, rfl, _, rfl, rfl, false, rfl, _, rfl, rfl, true, rfl, _, rfl, _, rfl, rfl, _, rfl, ?_⟩
      rw [eqI]
      by_cases z : n = k
      · rw [decide_eq_true z]
        refine no ?_
        show (!decide (n = k)) = false
        rw [decide_eq_true z]
        rfl
      · rw [decide_eq_false z]
        refine ⟨rfl, ⟨_, _, _, rfl⟩, yes ?_⟩
        show (!decide (n = k)) = true
        rw [decide_eq_false z]
        rfl
  · rintro σ H1 ⟨rfl, ⟨x2, x3, x4, rfl⟩, sofar⟩
    rw [hoAll_true fun j c hc => sofar j c (by rw [lx]; exact (List.getElem?_eq_some_iff.mp hc).1) hc] at q
    exact q
end
theorem ok__law_holds {P : Program} {w : World} {K : PySem.W.Frag} {mg : Str → Option Value} {base : Heap} (E : Ctx w K mg) : DefOk P w K mg base "_law_holds" [("_law_conditions" : Str), ("_law_n" : Str)] 1 (sp__law_holds w K) := by
  obtain ⟨fd, F⟩ := E.D__law_holds
  exact ⟨_, fd, fn_mk (t := t__law_holds P w K) F sc__law_holds (rd__law_holds E) (fun cdv A outer s H E0 hr => (pss_cons (ps_for PassesOwn.never rfl (pi_tup (pv 0)) (pg_name (i := 2) sc__law_holds.nd rfl (Or.inl rfl))
    (pss_cons (ps_par (i := 3) (j := 4) rfl sc__law_holds.nd rfl rfl (by decide) rfl rfl (pa_cons (pe_ix ix_tup (pv 2) pe_int (fun _ _ => rfl)) (pa_cons (pe_ix ix_tup (pv 2) pe_int (fun _ _ => rfl)) pa_nil)) rfl)
    (pss_cons (ps_if (PW.pt (pw_or (PW.pt (pw_and (pt_cmpR op_eq (pv 3) pe_str (nomark _)) (pw_and1 (pt_cmpR op_ne (pe_op op_mod (pe_callTy call_int1 (by rfl) E.f_int (by decide +kernel) (pa_cons (pe_op op_sub (pv 1) (pe_ix ix_tup (pv 2) pe_int (fun _ _ => rfl))) pa_nil)) (pv 4)) pe_int (nomark _))))) (pw_or1 (PW.pt (pw_and (pt_cmpR op_eq (pv 3) pe_str (nomark _)) (pw_and1 (pt_cmpR op_lt (pv 1) (pv 4) (nomark _))))))))
    (pss_one (ps_ret pe_bl))
    pss_nil)
    (pss_one (ps_if (PW.pt (pw_or (PW.pt (pw_and (pt_cmpR op_eq (pv 3) pe_str (nomark _)) (pw_and1 (pt_cmpR op_gt (pv 1) (pv 4) (nomark _))))) (pw_or (PW.pt (pw_and (pt_cmpR op_eq (pv 3) pe_str (nomark _)) (pw_and1 (pt_cmpR op_ne (pv 1) (pv 4) (nomark _))))) (pw_or1 (PW.pt (pw_and (pt_cmpR op_eq (pv 3) pe_str (nomark _)) (pw_and1 (pt_cmpR op_eq (pv 1) (pv 4) (nomark _)))))))))
    (pss_one (ps_ret pe_bl))
    pss_nil)))))
    (pss_one (ps_ret pe_bl)))), (FunD.bindsN F (fun _ _ _ _ _ _ us hl => match us, hl with | [_, _], _ => rfl)), E.g__law_holds, F.kp⟩
theorem cd_can (c : Cd) : c.d.canLay0 = true := by
  cases c <;> (simp only [Cd.d, Cd.ds, PyData.canLay0, PyData.canLayAll0, Bool.and_true, Bool.true_and]; decide +kernel)
theorem cd_dep (c : Cd) : c.d.depth ≤ 1 := by
  cases c <;> simp [Cd.d, Cd.ds, PyData.depth, PyData.depthAll]
theorem cds_can (c : List Cd) : (cdsD c).canLay0 = true := by
  simp only [cdsD, PyData.canLay0]
  exact canAll cd_can c
theorem cds_dep (c : List Cd) : (cdsD c).depth ≤ 2 := by
  simp only [cdsD, PyData.depth]
  have := depAll cd_dep c
  omega
theorem gw_can (g : Gw) : g.d.canLay0 = true := by
  simp only [Gw.d, Gw.ds, PyData.canLay0, PyData.canLayAll0, cds_can, Bool.and_true]
theorem gw_dep (g : Gw) : g.d.depth ≤ 3 := by
  simp only [Gw.d, Gw.ds, PyData.depth, PyData.depthAll]
  have := cds_dep g.cds
  omega
section
variable {P : Program} {w : World} {K : PySem.W.Frag} {mg : Str → Option Value} (E : Ctx w K mg)
include E
theorem rd__law_open (vs : List V) (H : Hp) (Q : VK) (E0 : XK) (h : sp__law_open w K vs H Q E0) : vs.length = 3 ∧ t__law_open P w K { nx := fun _ H' => Q .non H', rt := Q } (start N__law_open vs) H := by
  obtain ⟨v, B, p, n, rfl, ⟨a, s0, m0, g0, ms, gs, rfl, lw⟩, ok, q⟩ := h
  have lms : ms.length = B.moves.length := by rw [lw.am.1, List.length_map]
  have m1 := ok.m1
  refine ⟨rfl, (by show 0 ≤ sizeLine; decide), fun F hF => ?_⟩
  have eF := Ex.new (o := .lst []) hF
  refine ⟨_, rfl, a, _, rfl, (lw.ex eF).gm, m0, ms, rfl, .inl (Evl.sq_of (lw.ex eF).m), fun J G W hG => ?_⟩
  refine for_it W (fun i σ H' => (∃ x4 x5, σ = [some (.ref a), some (.int p), some (.int n), some (.ref F), x4, x5]) ∧ Ex H H' ∧ H' F = some (.lst (((List.range i).filter (B.mvAt p n)).map fun i : Nat => V.int i)))
    ⟨⟨none, none, rfl⟩, eF, upd_same⟩ (fun i σ H' _ z => hG _ (.lst (lw.ex eF).m (lw.ex z.2.1).m)) ?_ ?_
  · rintro i x σ H1 H1' hi ⟨⟨x4, x5, rfl⟩, e1, hF1⟩ ⟨T, y1, y2, rfl, hT, rfl, q1, q2⟩
    cases q1
    have eT := Ex.new (o := .tup [.int (i : Nat), y2]) hT
    have hmi : B.moves[i]? = some (B.moves[i]'(by omega)) := List.getElem?_eq_getElem (by omega)
    have okm := ok.m _ (List.getElem_mem (l := B.moves) (by omega : i < B.moves.length))
    generalize B.moves[i]'(by omega) = mv at hmi okm
    obtain ⟨xa, cv, rfl, sx, dcv⟩ := mv_tup ((lw.ex (e1.trans eT)).am.2 i y2 _ q2 (by rw [List.getElem?_map, hmi]; rfl))
    have mva : B.mvAt p n i = mv.at p n := by
      unfold Bk.mvAt
      rw [hmi]
    have hF2 := eT _ _ hF1
    have stepN : B.mvAt p n i = false → ((List.range (i + 1)).filter (B.mvAt p n)) = (List.range i).filter (B.mvAt p n) := fun z => by
      rw [List.range_succ, List.filter_append, List.filter_cons_of_neg (by rw [z]; exact Bool.false_ne_true), List.filter_nil, List.append_nil]
    refine ⟨T, _, rfl, Evl.st_of upd_same, rfl, _, _, rfl, _, _, rfl, rfl, ?_⟩
    refine ⟨_, rfl, xa, _, 0, _, rfl, rfl, sx, rfl, _, rfl, rfl, _, rfl, ?_⟩
    rw [eqI]
    refine ite2 (fun hp => ?_) fun hp => ?_
    · have hp2 : mv.place = p := Int.ofNat.inj (of_decide_eq_true hp)
      refine ⟨_, rfl, xa, _, 1, _, rfl, rfl, sx, rfl, _, rfl, cv, mv.cds, n, rfl, dcv, okm.c, _, rfl, ?_⟩
      refine ite2 (fun hh => ?_) fun hh => ?_
      · have t : B.mvAt p n i = true := by
          rw [mva]
          unfold Mv.at
          rw [decide_eq_true hp2, hh]
          rfl
        have lenF : (((List.range i).filter (B.mvAt p n)).map fun i : Nat => V.int i).length ≤ i := by
          rw [List.length_map]
          have := List.length_filter_le (B.mvAt p n) (List.range i)
          rw [List.length_range] at this
          exact this
        refine ⟨_, rfl, .inl ⟨rfl, _, Evl.sq_of hF2⟩, _, rfl, F, _, _, rfl, rfl, hF2, Evl.sz_lt (by omega), ⟨_, _, rfl⟩, (e1.trans eT).mut hF, ?_⟩
        rw [upd_same, List.range_succ, List.filter_append, List.filter_cons_of_pos t, List.map_append]
        rfl
      · have f : B.mvAt p n i = false := by
          rw [mva]
          unfold Mv.at
          rw [Bool.eq_false_iff.mpr hh, Bool.and_false]
        refine ⟨⟨_, _, rfl⟩, e1.trans eT, ?_⟩
        rw [stepN f]
        exact hF2
    · have f : B.mvAt p n i = false := by
        rw [mva]
        unfold Mv.at
        rw [decide_eq_false (fun z => hp (by rw [z]; exact decide_eq_true rfl)), Bool.false_and]
      refine ⟨⟨_, _, rfl⟩, e1.trans eT, ?_⟩
      rw [stepN f]
      exact hF2
  · rintro σ H1 ⟨⟨x4, x5, rfl⟩, e1, hF1⟩
    rw [lms] at hF1
    exact ⟨_, rfl, q H1 F e1 hF hF1⟩
theorem rd__law_is_goal (vs : List V) (H : Hp) (Q : VK) (E0 : XK) (h : sp__law_is_goal w K vs H Q E0) : vs.length = 3 ∧ t__law_is_goal P w K { nx := fun _ H' => Q .non H', rt := Q } (start N__law_is_goal vs) H := by
  obtain ⟨v, B, p, n, rfl, ⟨a, s0, m0, g0, ms, gs, rfl, lw⟩, ok, q⟩ := h
  have lgs : gs.length = B.goals.length := by rw [lw.ag.1, List.length_map]
  have g1 := ok.g1
  refine ⟨rfl, _, rfl, a, _, rfl, lw.gg, g0, rfl, ⟨_, Evl.sq_of lw.g⟩, fun D hD => ?_⟩
  refine lc_filt hD (walk_list (xs := gs)) (by omega) (parF gs B.goals fun g => g.at p n) (fun H' e => Evl.sq_of (e _ _ lw.g)) ?_ ?_
  · rintro i x H1 H1' kk k0 hi e1 ⟨rfl, hx⟩ k1 k2
    have hgi : B.goals[i]? = some (B.goals[i]'(by omega)) := List.getElem?_eq_getElem (by omega)
    have okg := ok.g _ (List.getElem_mem (l := B.goals) (by omega : i < B.goals.length))
    generalize B.goals[i]'(by omega) = gw at hgi okg
    obtain ⟨xa, cv, rfl, sx, dcv⟩ := gw_tup ((lw.ex e1).ag.2 i x _ hx (by rw [List.getElem?_map, hgi]; rfl))
    have val : parF gs B.goals (fun g => g.at p n) i = if gw.at p n = true then some (.ref xa) else none := by
      unfold parF
      rw [hx, hgi]
    refine ⟨rfl, _, rfl, xa, _, 0, _, rfl, rfl, sx, rfl, _, rfl, rfl, _, rfl, ?_⟩
    rw [eqI]
    refine ite2 (fun hp => ?_) fun hp => ?_
    · have hp2 : gw.place = p := Int.ofNat.inj (of_decide_eq_true hp)
      refine ⟨_, rfl, xa, _, 1, _, rfl, rfl, sx, rfl, _, rfl, cv, gw.cds, n, rfl, dcv, okg.c, _, rfl, ?_⟩
      have e : gw.at p n = hoAll gw.cds n := by
        unfold Gw.at
        rw [decide_eq_true hp2, Bool.true_and]
      refine ite2 (fun hh => ⟨_, rfl, k1 _ _ (by rw [val, e, if_pos hh]) (.refl _)⟩) fun hh => k2 (by rw [val, e, if_neg hh]) _ (.refl _)
    · have f : gw.at p n = false := by
        unfold Gw.at
        rw [decide_eq_false (fun z => hp (by rw [z]; exact decide_eq_true rfl)), Bool.false_and]
      exact k2 (by rw [val, f, if_neg Bool.false_ne_true]) _ (.refl _)
  · intro H1 e1 hl
    have al := par_filt Gw.d (fun g : Gw => g.at p n) gs B.goals (lw.ex e1).ag
    refine ⟨(by show 0 ≤ sizeLine; decide), fun L hL => ?_⟩
    have eL := Ex.new (o := .lst []) hL
    refine ⟨.list ((B.goals.filter fun g => g.at p n).map Gw.d), .list [], .lst (Evl.sq_of (eL _ _ hl)) (al.tk (.ex eL)).dp, .lst (Evl.sq_of upd_same) .nil, ?_, ?_, ?_⟩
    · refine shp ?_ ?_
      · simp only [PyData.canLay0]
        exact canAll gw_can _
      · simp only [PyData.depth]
        have := depAll gw_dep (B.goals.filter fun g => g.at p n)
        omega
    · exact shp (by simp [PyData.canLay0, PyData.canLayAll0]) (by simp [PyData.depth, PyData.depthAll])
    · have e : (!PyData.eqv (.list ((B.goals.filter fun g => g.at p n).map Gw.d)) (.list [])) = B.goal p n := by
        unfold Bk.goal
        cases z : B.goals.filter fun g => g.at p n with
        | nil =>
          have : B.goals.any (fun g => g.at p n) = false := by
            refine Bool.eq_false_iff.mpr fun h => ?_
            obtain ⟨g, hg, hh⟩ := List.any_eq_true.mp h
            have : g ∈ B.goals.filter fun g => g.at p n := List.mem_filter.mpr ⟨hg, hh⟩
            rw [z] at this
            cases this
          rw [this]
          simp [PyData.eqv, PyData.eqvAll]
        | cons g r =>
          have : B.goals.any (fun g => g.at p n) = true := by
            have m : g ∈ B.goals.filter fun g => g.at p n := by rw [z]; exact List.mem_cons_self
            obtain ⟨m1, m2⟩ := List.mem_filter.mp m
            exact List.any_eq_true.mpr ⟨g, m1, m2⟩
          rw [this]
          simp [PyData.eqv, PyData.eqvAll]
      rw [e]
      exact q _ (e1.trans eL)
end
theorem ok__law_open {P : Program} {w : World} {K : PySem.W.Frag} {mg : Str → Option Value} {base : Heap} (E : Ctx w K mg) : DefOk P w K mg base "_law_open" [("_law_book" : Str), ("_law_place" : Str), ("_law_n" : Str)] 2 (sp__law_open w K) := by
  obtain ⟨fd, F⟩ := E.D__law_open
  exact ⟨_, fd, fn_mk (t := t__law_open P w K) F sc__law_open (rd__law_open E) (fun cdv A outer s H E0 hr => (pss_cons (ps_set (i := 3) sc__law_open.nd rfl (Or.inl rfl) (pe_lst pa_nil))
    (pss_cons (ps_for PassesOwn.never rfl (pi_enumS (by rfl) E.f_enumerate (pa_cons (pe_dget (hu_of hr) (pv 0) pe_str (fun _ _ => rfl)) pa_nil)) (pg_tup rfl (pgs_cons (pg_name (i := 4) sc__law_open.nd rfl (Or.inl rfl)) (pgs_cons (pg_name (i := 5) sc__law_open.nd rfl (Or.inl rfl)) pgs_nil)))
    (pss_one (ps_if (PW.pt (pw_and (pt_cmpR op_eq (pe_ix ix_tup (pv 5) pe_int (fun _ _ => rfl)) (pv 1) (nomark _)) (pw_and1 (pt_val (pe_fn (ok__law_holds E) (hr.mono (by decide)) (by rfl) (pa_cons (pe_ix ix_tup (pv 5) pe_int (fun _ _ => rfl)) (pa_cons (pv 2) pa_nil)))))))
    (pss_one (ps_expr (pe_bm PySem.F.plainAttrs_list PySem.F.slot_list_append PySem.F.type_list_append mt_append (pv 3) (pa_cons (pv 4) pa_nil))))
    pss_nil)))
    (pss_one (ps_ret (pv 3)))))), (FunD.bindsN F (fun _ _ _ _ _ _ us hl => match us, hl with | [_, _, _], _ => rfl)), E.g__law_open, F.kp⟩
theorem ok__law_is_goal {P : Program} {w : World} {K : PySem.W.Frag} {mg : Str → Option Value} {base : Heap} (E : Ctx w K mg) : DefOk P w K mg base "_law_is_goal" [("_law_book" : Str), ("_law_place" : Str), ("_law_n" : Str)] 2 (sp__law_is_goal w K) := by
  obtain ⟨fd, F⟩ := E.D__law_is_goal
  exact ⟨_, fd, fn_mk (t := t__law_is_goal P w K) F sc__law_is_goal (rd__law_is_goal E) (fun cdv A outer s H E0 hr => (pss_one (ps_ret (pe_cmpR (op_neD hr.units) (pe_lc (own := [("_law_goal", 3)]) (wi := (iList K (tDGet (tVar 0) (tC (.str "goals"))))) (g := (gName 3)) (tt := (tAnd (tTest (tOp rEq (tOp (rIxT K) (tVar 3) (tC (.int 0))) (tVar 1))) (tB (tFn (sp__law_holds w K) (tCons (tOp (rIxT K) (tVar 3) (tC (.int 1))) (tCons (tVar 2) tNil)))))) (te := (tVar 3)) rfl sc__law_is_goal.nd (pi_list (pe_dget (hu_of hr) (pv 0) pe_str (fun _ _ => rfl))) (blkOk_by (own := [("_law_goal", 3)]) (N := N__law_is_goal) (sc := defScope s__law_is_goal) (by decide +kernel)) (fun _ _ _ _ _ => (pg_name (i := 3) sc__law_is_goal.nd rfl (Or.inl rfl))) (fun _ _ _ _ _ => (pts_one (PW.pt (pw_and (pt_cmpR op_eq (pe_ix ix_tup (pv 3) pe_int (fun _ _ => rfl)) (pv 1) (nomark _)) (pw_and1 (pt_val (pe_fn (ok__law_holds E) (hr.mono (by decide)) (by rfl) (pa_cons (pe_ix ix_tup (pv 3) pe_int (fun _ _ => rfl)) (pa_cons (pv 2) pa_nil))))))))) (fun _ _ _ _ _ => (pv 3))) (pe_lst pa_nil) (nomark _))))), (FunD.bindsN F (fun _ _ _ _ _ _ us hl => match us, hl with | [_, _, _], _ => rfl)), E.g__law_is_goal, F.kp⟩
end K28

set_option Elab.async false
set_option linter.all false
set_option maxRecDepth 100000
set_option maxHeartbeats 4000000
namespace K28
open PySem PySem.Spec PyProof.Rows L2
open Evl (Ex)

def sp__law_reach (w : World) (K : PySem.W.Frag) : Sp := fun vs H Q _ => ∃ (v : V) (B : Bk), vs = [v] ∧ LwB K H v B ∧ B.Ok ∧ ∀ H' r, Ex H H' → 0 ≤ r → r ≤ 3 → Q (.int r) H'
def sp__law_common (w : World) (K : PySem.W.Frag) : Sp := fun vs H Q _ => ∃ (a b : Nat), vs = [.int a, .int b] ∧ 1 ≤ a ∧ a ≤ 1000 ∧ 1 ≤ b ∧ b ≤ 1000 ∧ ∀ H', Ex H H' → Q (.int (Nat.lcm a b : Nat)) H'
def sp__law_width (w : World) (K : PySem.W.Frag) : Sp := fun vs H Q _ => ∃ (v : V) (B : Bk), vs = [v] ∧ LwB K H v B ∧ B.Ok ∧ ∀ H' (d : Nat), Ex H H' → B.rests ∣ d → 1 ≤ d → d ≤ 18 → Q (.int d) H'
def sp__law_bound (w : World) (K : PySem.W.Frag) : Sp := fun vs H Q _ => ∃ (v : V) (B : Bk), vs = [v] ∧ LwB K H v B ∧ B.Ok ∧ ∀ H', Ex H H' → Q (.int B.bound) H'
def N__law_reach : List Str := ["_law_book", "_law_move"]
theorem sc__law_reach : FnScope N__law_reach ["_law_book"] (defScope s__law_reach) := ⟨rfl, rfl, rfl, by decide +kernel, rfl, by decide +kernel, by decide +kernel⟩
/-- names: 0 _law_book 1 _law_move -/
def t__law_reach (P : Program) (w : World) (K : PySem.W.Frag) : TS :=
    (tRet (tCB (rMax K) (tCons (tOp rCat (tLst (tCons (tC (.int 0)) tNil)) (tLc (iList K (tDGet (tVar 0) (tC (.str "moves")))) (gName 1) tYes (tCB rAbsI (tCons (tOp (rIxT K) (tVar 1) (tC (.int 2))) tNil)) [1])) tNil)))
def N__law_common : List Str := ["_law_one", "_law_other", "_law_k"]
theorem sc__law_common : FnScope N__law_common ["_law_one", "_law_other"] (defScope s__law_common) := ⟨rfl, rfl, rfl, by decide +kernel, rfl, by decide +kernel, by decide +kernel⟩
/-- names: 0 _law_one 1 _law_other* 2 _law_k -/
def t__law_common (P : Program) (w : World) (K : PySem.W.Frag) : TS :=
    (tRet (tOp (rIxL K) (tLc (iRng3 (tCons (tVar 0) (tCons (tOp rAddI (tOp rMulI (tVar 0) (tVar 1)) (tC (.int 1))) (tCons (tVar 0) tNil)))) (gName 2) (tTest (tOp rEq (tOp rModI (tCB rInt1 (tCons (tVar 2) tNil)) (tVar 1)) (tC (.int 0)))) (tVar 2) [2]) (tC (.int 0))))
def N__law_width : List Str := ["_law_book", "_law_modulus", "_law_item", "_law_condition"]
theorem sc__law_width : FnScope N__law_width ["_law_book"] (defScope s__law_width) := ⟨rfl, rfl, rfl, by decide +kernel, rfl, by decide +kernel, by decide +kernel⟩
/-- names: 0 _law_book 1 _law_modulus 2 _law_item 3 _law_condition -/
def t__law_width (P : Program) (w : World) (K : PySem.W.Frag) : TS :=
    (tSeq (tAsg (tC (.int 1)) (gName 1))
    (tSeq (tFor (iList K (tOp rCat (tDGet (tVar 0) (tC (.str "moves"))) (tDGet (tVar 0) (tC (.str "goals"))))) (gName 2)
    (tFor (iTup K (tOp (rIxT K) (tVar 2) (tC (.int 1)))) (gName 3)
    (tIfS (tTest (tOp rEq (tOp (rIxT K) (tVar 3) (tC (.int 0))) (tC (.str "rest"))))
    (tAsg (tFn (sp__law_common w K) (tCons (tVar 1) (tCons (tOp (rIxT K) (tVar 3) (tC (.int 1))) tNil))) (gName 1))
    tNext)))
    (tRet (tOp rMulI (tVar 1) (tCB (rMax K) (tCons (tLst (tCons (tC (.int 1)) (tCons (tUn rNegI (tOp rFdivI (tUn rNegI (tFn (sp__law_reach w K) (tCons (tVar 0) tNil))) (tVar 1))) tNil))) tNil))))))
def N__law_bound : List Str := ["_law_book", "_law_sizes", "_law_item", "_law_condition"]
theorem sc__law_bound : FnScope N__law_bound ["_law_book"] (defScope s__law_bound) := ⟨rfl, rfl, rfl, by decide +kernel, rfl, by decide +kernel, by decide +kernel⟩
/-- names: 0 _law_book 1 _law_sizes 2 _law_item 3 _law_condition -/
def t__law_bound (P : Program) (w : World) (K : PySem.W.Frag) : TS :=
    (tSeq (tAsg (tLst (tCons (tC (.int 0)) tNil)) (gName 1))
    (tSeq (tFor (iList K (tOp rCat (tDGet (tVar 0) (tC (.str "moves"))) (tDGet (tVar 0) (tC (.str "goals"))))) (gName 2)
    (tAsg (tOp rCat (tVar 1) (tLc (iTup K (tOp (rIxT K) (tVar 2) (tC (.int 1)))) (gName 3) (tTest (tOp rNe (tOp (rIxT K) (tVar 3) (tC (.int 0))) (tC (.str "rest")))) (tCB rAbsI (tCons (tOp (rIxT K) (tVar 3) (tC (.int 1))) tNil)) [3])) (gName 1)))
    (tRet (tCB (rMax K) (tCons (tVar 1) tNil)))))
theorem first_fm {f : Nat → Option V} {v : V} {k : Nat} (h0 : ∀ j, j < k → f j = none) (h1 : f k = some v) : ∀ n, k < n → ((List.range n).filterMap f)[0]? = some v
  | 0, h => absurd h (Nat.not_lt_zero _)
  | n + 1, h => by
    rw [List.range_succ, List.filterMap_append]
    by_cases e : k < n
    · have ih := first_fm h0 h1 n e
      have lt : 0 < ((List.range n).filterMap f).length := (List.getElem?_eq_some_iff.mp ih).1
      rw [List.getElem?_append_left lt]
      exact ih
    · have : k = n := by omega
      subst this
      have z : (List.range k).filterMap f = [] := List.filterMap_eq_nil_iff.mpr fun j hj => h0 j (List.mem_range.mp hj)
      rw [z, List.nil_append, List.filterMap_cons_some h1]
      rfl
theorem range3_ok {a b : Nat} (a1 : 1 ≤ a) (a2 : a ≤ 1000) (b1 : 1 ≤ b) (b2 : b ≤ 1000) : RgC (a : Int) ((a : Int) * b + 1) a b := by
  have hab : a * b ≤ 1000 * 1000 := Nat.mul_le_mul a2 b2
  have hab1 : a ≤ a * b := Nat.le_mul_of_pos_right a b1
  have size : Builtin.Range.rangeSize (a : Int) ((a : Int) * b + 1) a = b := by
    unfold Builtin.Range.rangeSize
    have c1 : (a : Int) > 0 := by omega
    have e0 : (a : Int) * b = ((a * b : Nat) : Int) := (Int.natCast_mul a b).symm
    have c2 : (a : Int) < (a : Int) * b + 1 := by
      rw [e0]
      omega
    rw [if_pos c1, if_pos c2]
    have e : (a : Int) * b + 1 - a - 1 = (a : Int) * ((b : Int) - 1) := by
      rw [Int.mul_sub, Int.mul_one]
      omega
    rw [e, Int.mul_ediv_cancel_left _ (by omega)]
    omega
  have e0 : (a : Int) * b = ((a * b : Nat) : Int) := (Int.natCast_mul a b).symm
  have u1 : (a : Int) * b ≤ 1000000 := by
    rw [e0]
    omega
  have u2 : (a : Int) ≤ (a : Int) * b := by
    rw [e0]
    omega
  refine ⟨by omega, by omega, ?_, size⟩
  unfold Builtin.Range.small
  simp only [size, Builtin.Range.rangeFitsLong, Bool.and_eq_true, Bool.or_eq_true, decide_eq_true_eq, beq_iff_eq]
  have c1 : (a : Int) > 0 := by omega
  rw [if_pos c1]
  simp only [Bool.and_eq_true, decide_eq_true_eq]
  generalize (a : Int) * b = m at *
  omega
section
variable {P : Program} {w : World} {K : PySem.W.Frag} {mg : Str → Option Value} (E : Ctx w K mg)
include E
theorem rd__law_common (vs : List V) (H : Hp) (Q : VK) (E0 : XK) (h : sp__law_common w K vs H Q E0) : vs.length = 2 ∧ t__law_common P w K { nx := fun _ H' => Q .non H', rt := Q } (start N__law_common vs) H := by
  obtain ⟨a, b, rfl, a1, a2, b1, b2, q⟩ := h
  refine ⟨rfl, _, rfl, _, rfl, _, rfl, a, b, rfl, rfl, .inr ⟨by omega, by omega⟩, _, 1, rfl, rfl, _, rfl, _, _, _, b, rfl, range3_ok a1 a2 b1 b2, fun D hD => ?_⟩
  refine lc_filt hD (walk_rangeC (lo := (a : Int)) (c := (a : Int)) (n := b)) (by omega) (fun i => if decide ((a * (i + 1)) % b = 0) = true then some (.int ((a * (i + 1) : Nat) : Int)) else none) (fun _ _ => trivial) ?_ ?_
  · rintro i x H1 H1' kk k0 hi e1 ⟨rfl, hx⟩ k1 k2
    have hx2 : x = .int ((a * (i + 1) : Nat) : Int) := hx.trans (congrArg V.int (by
      show (a : Int) + (i : Nat) * (a : Int) = _
      rw [Int.natCast_mul, Int.natCast_add, Int.mul_add, Int.mul_comm (a : Int) (i : Int)]
      omega))
    subst hx2
    refine ⟨rfl, _, rfl, .inl ⟨_, rfl, _, rfl, _, b, rfl, rfl, by omega, rfl, _, rfl, ?_⟩⟩
    rw [eqI]
    have e : decide (((a * (i + 1) : Nat) : Int) % (b : Nat) = 0) = decide ((a * (i + 1)) % b = 0) := decide_eq_decide.mpr ⟨fun z => by rw [← Int.natCast_emod] at z; omega, fun z => by rw [← Int.natCast_emod]; omega⟩
    rw [e]
    exact ite2 (fun c => ⟨_, rfl, k1 _ _ (if_pos c) (.refl _)⟩) fun c => k2 (if_neg c) _ (.refl _)
  · intro H1 e1 hl
    -- the first is the least common multiple
    have g0 : 0 < Nat.gcd a b := Nat.gcd_pos_of_pos_left _ a1
    have ldvd : a ∣ Nat.lcm a b := Nat.dvd_lcm_left a b
    obtain ⟨k, hk⟩ := ldvd
    have lpos : 0 < Nat.lcm a b := Nat.lcm_pos a1 b1
    have k0 : 1 ≤ k := by
      rcases Nat.eq_zero_or_pos k with z | z
      · rw [z, Nat.mul_zero] at hk
        omega
      · exact z
    have kb : k ≤ b := by
      have h1 : Nat.lcm a b ∣ a * b := Nat.lcm_dvd (Nat.dvd_mul_right a b) (Nat.dvd_mul_left b a)
      have h2 := Nat.le_of_dvd (Nat.mul_pos a1 b1) h1
      rw [hk] at h2
      exact Nat.le_of_mul_le_mul_left h2 a1
    have fst := first_fm (f := fun i => if decide ((a * (i + 1)) % b = 0) = true then some (V.int ((a * (i + 1) : Nat) : Int)) else none) (v := .int (Nat.lcm a b : Nat)) (k := k - 1) (fun j hj => if_neg fun z => ?_) ?_ b (by omega)
    · refine ⟨D, _, 0, _, rfl, rfl, Evl.sq_of hl, atI_nat (j := 0) fst, q H1 e1⟩
    · have z2 : a * (j + 1) % b = 0 := of_decide_eq_true z
      have d1 : Nat.lcm a b ∣ a * (j + 1) := Nat.lcm_dvd (Nat.dvd_mul_right a _) (Nat.dvd_of_mod_eq_zero z2)
      have d2 := Nat.le_of_dvd (Nat.mul_pos a1 (by omega)) d1
      rw [hk] at d2
      have := Nat.le_of_mul_le_mul_left d2 a1
      omega
    · have e : k - 1 + 1 = k := by omega
      show (if decide ((a * (k - 1 + 1)) % b = 0) = true then some (V.int ((a * (k - 1 + 1) : Nat) : Int)) else none) = _
      rw [e, ← hk, if_pos (decide_eq_true (Nat.mod_eq_zero_of_dvd (Nat.dvd_lcm_right a b)))]
theorem rd__law_reach (vs : List V) (H : Hp) (Q : VK) (E0 : XK) (h : sp__law_reach w K vs H Q E0) : vs.length = 1 ∧ t__law_reach P w K { nx := fun _ H' => Q .non H', rt := Q } (start N__law_reach vs) H := by
  obtain ⟨v, B, rfl, ⟨a, s0, m0, g0, ms, gs, rfl, lw⟩, ok, q⟩ := h
  have lms : ms.length = B.moves.length := by rw [lw.am.1, List.length_map]
  have m1 := ok.m1
  refine ⟨rfl, (by show 1 ≤ sizeLine; decide), fun L hL => ?_⟩
  have eL := Ex.new (o := .lst [.int 0]) hL
  refine ⟨_, rfl, a, _, rfl, (lw.ex eL).gm, m0, rfl, ⟨_, Evl.sq_of (lw.ex eL).m⟩, fun D hD => ?_⟩
  refine lc_filt hD (walk_list (xs := ms)) (by omega) (fun i => B.moves[i]?.bind fun m => some (.int (if m.shift < 0 then -m.shift else m.shift))) (fun H' e => Evl.sq_of (e _ _ (lw.ex eL).m)) ?_ ?_
  · rintro i x H1 H1' kk k0 hi e1 ⟨rfl, hx⟩ k1 k2
    have hmi : B.moves[i]? = some (B.moves[i]'(by omega)) := List.getElem?_eq_getElem (by omega)
    generalize B.moves[i]'(by omega) = mv at hmi
    obtain ⟨xa, cv, rfl, sx, dcv⟩ := mv_tup (((lw.ex eL).ex e1).am.2 i x _ hx (by rw [List.getElem?_map, hmi]; rfl))
    rw [hmi] at k1
    exact ⟨rfl, _, rfl, xa, _, 2, _, rfl, rfl, sx, rfl, _, rfl, k1 _ _ rfl (.refl _)⟩
  · intro H1 e1 hl
    rw [lms, fm_at] at hl
    have el : B.moves.filterMap (fun m => some (V.int (if m.shift < 0 then -m.shift else m.shift))) = (B.moves.map fun m => if m.shift < 0 then -m.shift else m.shift).map V.int := by
      rw [List.map_map]
      exact fm_map fun _ _ => rfl
    rw [el] at hl
    refine ⟨L, D, _, _, rfl, rfl, e1 _ _ upd_same, hl, Evl.sz_of (by rw [List.length_map, List.length_map, List.length_singleton]; omega), fun M hM => ?_⟩
    refine ⟨M, 0 :: B.moves.map fun m => if m.shift < 0 then -m.shift else m.shift, rfl, Evl.sq_of (by rw [upd_same]; rfl), by simp, fun m hm hall => q _ m ((eL.trans e1).trans (Ex.new hM)) (hall 0 List.mem_cons_self) ?_⟩
    rcases List.mem_cons.mp hm with rfl | hm
    · decide
    · obtain ⟨mv, hmv, rfl⟩ := List.mem_map.mp hm
      have o := ok.m mv hmv
      have o1 := o.s0
      have o2 := o.s1
      split <;> omega
end
theorem ok__law_common {P : Program} {w : World} {K : PySem.W.Frag} {mg : Str → Option Value} {base : Heap} (E : Ctx w K mg) : DefOk P w K mg base "_law_common" [("_law_one" : Str), ("_law_other" : Str)] 1 (sp__law_common w K) := by
  obtain ⟨fd, F⟩ := E.D__law_common
  exact ⟨_, fd, fn_mk (t := t__law_common P w K) F sc__law_common (rd__law_common E) (fun cdv A outer s H E0 hr => (pss_one (ps_ret (pe_ix ix_list (pe_lc (own := [("_law_k", 2)]) (wi := (iRng3 (tCons (tVar 0) (tCons (tOp rAddI (tOp rMulI (tVar 0) (tVar 1)) (tC (.int 1))) (tCons (tVar 0) tNil))))) (g := (gName 2)) (tt := (tTest (tOp rEq (tOp rModI (tCB rInt1 (tCons (tVar 2) tNil)) (tVar 1)) (tC (.int 0))))) (te := (tVar 2)) rfl sc__law_common.nd (pi_range3 (by rfl) E.f_range (pa_cons (pv 0) (pa_cons (pe_op op_add (pe_op op_mul (pv 0) (pv 1)) pe_int) (pa_cons (pv 0) pa_nil)))) (blkOk_by (own := [("_law_k", 2)]) (N := N__law_common) (sc := defScope s__law_common) (by decide +kernel)) (fun _ _ _ _ _ => (pg_name (i := 2) sc__law_common.nd rfl (Or.inl rfl))) (fun _ _ _ _ _ => (pts_one (pt_cmpR op_eq (pe_op op_mod (pe_callTy call_int1 (by rfl) E.f_int (by decide +kernel) (pa_cons (pv 2) pa_nil)) (pv 1)) pe_int (nomark _)))) (fun _ _ _ _ _ => (pv 2))) pe_int (fun _ _ => rfl))))), (FunD.bindsN F (fun _ _ _ _ _ _ us hl => match us, hl with | [_, _], _ => rfl)), E.g__law_common, F.kp⟩
theorem ok__law_reach {P : Program} {w : World} {K : PySem.W.Frag} {mg : Str → Option Value} {base : Heap} (E : Ctx w K mg) : DefOk P w K mg base "_law_reach" [("_law_book" : Str)] 1 (sp__law_reach w K) := by
  obtain ⟨fd, F⟩ := E.D__law_reach
  exact ⟨_, fd, fn_mk (t := t__law_reach P w K) F sc__law_reach (rd__law_reach E) (fun cdv A outer s H E0 hr => (pss_one (ps_ret (pe_callB (cr_max rfl) (by rfl) E.f_max (by decide +kernel) (pa_cons (pe_op op_cat (pe_lst (pa_cons pe_int pa_nil)) (pe_lc (own := [("_law_move", 1)]) (wi := (iList K (tDGet (tVar 0) (tC (.str "moves"))))) (g := (gName 1)) (tt := tYes) (te := (tCB rAbsI (tCons (tOp (rIxT K) (tVar 1) (tC (.int 2))) tNil))) rfl sc__law_reach.nd (pi_list (pe_dget (hu_of hr) (pv 0) pe_str (fun _ _ => rfl))) (blkOk_by (own := [("_law_move", 1)]) (N := N__law_reach) (sc := defScope s__law_reach) (by decide +kernel)) (fun _ _ _ _ _ => (pg_name (i := 1) sc__law_reach.nd rfl (Or.inl rfl))) (fun _ _ _ _ _ => pts_nil) (fun _ _ _ _ _ => (pe_callB call_abs (by rfl) E.f_abs (by decide +kernel) (pa_cons (pe_ix ix_tup (pv 1) pe_int (fun _ _ => rfl)) pa_nil))))) pa_nil))))), (FunD.bindsN F (fun _ _ _ _ _ _ us hl => match us, hl with | [_], _ => rfl)), E.g__law_reach, F.kp⟩
theorem flat_take {α : Type} {l : List (List α)} {i : Nat} {c : List α} (h : l[i]? = some c) : (l.take (i + 1)).flatten = (l.take i).flatten ++ c := by
  rw [List.take_succ, h, List.flatten_append]
  simp
def allC (B : Bk) : List (List Cd) := B.moves.map Mv.cds ++ B.goals.map Gw.cds
theorem allC_flat (B : Bk) : (allC B).flatten = B.conds := by
  unfold allC Bk.conds
  rw [List.flatten_append, List.flatMap_def, List.flatMap_def]
/-- an item of moves + goals: its conditions stand second -/
theorem item_tup {K : PySem.W.Frag} {H : Hp} {a s m g : Addr} {ms gs : List V} {B : Bk} (lw : LwAt K H a s m g ms gs B) (ok : B.Ok) {i : Nat} {x : V} (hx : (ms ++ gs)[i]? = some x) :
    ∃ p pl cp cx cs r, x = .ref p ∧ SqT K H p (.int pl :: .ref cp :: r) ∧ SqT K H cp cx ∧ DtAll K H cx (cs.map Cd.d) ∧ CdsOk cs ∧ (allC B)[i]? = some cs := by
  have lms : ms.length = B.moves.length := by rw [lw.am.1, List.length_map]
  by_cases h : i < ms.length
  · rw [List.getElem?_append_left h] at hx
    have hmi : B.moves[i]? = some (B.moves[i]'(by omega)) := List.getElem?_eq_getElem (by omega)
    have okm := ok.m _ (List.getElem_mem (l := B.moves) (by omega : i < B.moves.length))
    generalize B.moves[i]'(by omega) = mv at hmi okm
    obtain ⟨xa, cv, rfl, sx, dcv⟩ := mv_tup (lw.am.2 i x _ hx (by rw [List.getElem?_map, hmi]; rfl))
    obtain ⟨cp, cx, rfl, sc, ac⟩ := dcv.tupD
    exact ⟨xa, _, cp, cx, mv.cds, _, rfl, sx, sc, ac, okm.c, by unfold allC; rw [List.getElem?_append_left (by rw [List.length_map]; omega), List.getElem?_map, hmi]; rfl⟩
  · rw [List.getElem?_append_right (Nat.le_of_not_lt h)] at hx
    have lgs : gs.length = B.goals.length := by rw [lw.ag.1, List.length_map]
    have lt := (List.getElem?_eq_some_iff.mp hx).1
    have hgi : B.goals[i - ms.length]? = some (B.goals[i - ms.length]'(by omega)) := List.getElem?_eq_getElem (by omega)
    have okg := ok.g _ (List.getElem_mem (l := B.goals) (by omega : i - ms.length < B.goals.length))
    generalize B.goals[i - ms.length]'(by omega) = gw at hgi okg
    obtain ⟨xa, cv, rfl, sx, dcv⟩ := gw_tup (lw.ag.2 _ x _ hx (by rw [List.getElem?_map, hgi]; rfl))
    obtain ⟨cp, cx, rfl, sc, ac⟩ := dcv.tupD
    exact ⟨xa, _, cp, cx, gw.cds, _, rfl, sx, sc, ac, okg.c, by
      unfold allC
      rw [List.getElem?_append_right (by rw [List.length_map]; omega), List.length_map, ← lms, List.getElem?_map, hgi]
      rfl⟩
theorem foldl_six {l : List Cd} (h : ∀ c ∈ l, c.Ok) {f : Nat} (hf : f ∣ 6) : l.foldl Cd.rest f ∣ 6 := by
  induction l generalizing f with
  | nil => exact hf
  | cons c l ih => exact ih (fun x hx => h x (List.mem_cons_of_mem _ hx)) (rest_six (h c List.mem_cons_self) hf)
section
variable {P : Program} {w : World} {K : PySem.W.Frag} {mg : Str → Option Value} (E : Ctx w K mg)
include E
theorem rd__law_width (vs : List V) (H : Hp) (Q : VK) (E0 : XK) (h : sp__law_width w K vs H Q E0) : vs.length = 1 ∧ t__law_width P w K { nx := fun _ H' => Q .non H', rt := Q } (start N__law_width vs) H := by
  obtain ⟨v, B, rfl, ⟨a, s0, m0, g0, ms, gs, rfl, lw⟩, ok, q⟩ := h
  have lms : ms.length = B.moves.length := by rw [lw.am.1, List.length_map]
  have lgs : gs.length = B.goals.length := by rw [lw.ag.1, List.length_map]
  have m1 := ok.m1
  have g1 := ok.g1
  refine ⟨rfl, _, rfl, a, _, rfl, lw.gm, _, rfl, a, _, rfl, lw.gg, m0, g0, ms, gs, rfl, rfl, lw.m, lw.g, Evl.sz_of (by omega), fun L hL => ⟨L, rfl, ⟨_, Evl.sq_of upd_same⟩, ?_⟩⟩
  have eL := Ex.new (o := .lst (ms ++ gs)) hL
  refine for_it (walk_list (xs := ms ++ gs)) (fun i σ H' => Ex (upd H L (.lst (ms ++ gs))) H' ∧ ∃ (f : Nat) (x2 x3 : Option V), σ = [some (.ref a), some (.int f), x2, x3] ∧ f = ((allC B).take i).flatten.foldl Cd.rest 1 ∧ f ∣ 6) ⟨.refl _, 1, none, none, rfl, rfl, by decide⟩ (fun i σ H' _ z => Evl.sq_of (z.1 _ _ upd_same)) ?_ ?_
  · rintro i x σ H1 H1' hi ⟨e1, f, x2, x3, rfl, hf, h6⟩ ⟨rfl, hx⟩
    have lw1 := lw.ex (eL.trans e1)
    obtain ⟨p, pl, cp, cx, cs, r, rfl, sp, sc, ac, okc, hcs⟩ := item_tup lw1 ok hx
    have lcx : cx.length = cs.length := by rw [ac.1, List.length_map]
    refine ⟨_, rfl, p, _, 1, _, rfl, rfl, sp, atI_nat (j := 1) rfl, cp, rfl, ⟨_, sc⟩, ?_⟩
    refine for_it (walk_tup (xs := cx)) (fun j σ H' => Ex H1' H' ∧ ∃ (f2 : Nat) (x3 : Option V), σ = [some (.ref a), some (.int f2), some (.ref p), x3] ∧ f2 = (cs.take j).foldl Cd.rest f ∧ f2 ∣ 6) ⟨.refl _, f, x3, rfl, rfl, h6⟩ (fun j σ H' _ z => Evl.ex_t z.1 sc) ?_ ?_
    · rintro j y σ H2 H2' hj ⟨e2, f2, x3, rfl, hf2, h62⟩ ⟨rfl, hy⟩
      have hcj : cs[j]? = some (cs[j]'(by omega)) := List.getElem?_eq_getElem (by omega)
      have okj := okc.2 _ (List.getElem_mem (l := cs) (by omega : j < cs.length))
      generalize cs[j]'(by omega) = cd at hcj okj
      have dy := (ac.2 j y _ hy (by rw [List.getElem?_map, hcj]; rfl)).tk (.ex e2)
      obtain ⟨ya, ys, rfl, sy, ay⟩ := dy.tupD
      obtain ⟨z1, z6⟩ := pos_of_six h62
      have step : (cs.take (j + 1)).foldl Cd.rest f = cd.rest f2 := by
        rw [List.take_succ, hcj, List.foldl_append, ← hf2]
        rfl
      cases cd with
      | rs m r =>
        obtain ⟨u, v, z, rfl, d1, d2, d3⟩ := ay.three
        rw [d1.strD, d2.intD, d3.intD] at sy
        obtain ⟨o1, o2, o3, o4⟩ := id okj
        have em : m = ((m.toNat : Nat) : Int) := by omega
        refine ⟨_, rfl, ya, _, 0, _, rfl, rfl, sy, rfl, rfl, true, rfl, _, rfl, _, rfl, ya, _, 1, _, rfl, rfl, sy, rfl, f2, m.toNat, (by rw [← em]; rfl), z1, by omega, by omega, by omega, fun H3 e3 => ⟨e2.trans e3, _, _, rfl, step.symm, rest_six (c := .rs m r) okj h62⟩⟩
      | le k | mo k | eq k | ne k =>
        obtain ⟨u, v, rfl, d1, d2⟩ := ay.two
        rw [d1.strD, d2.intD] at sy
        exact ⟨_, rfl, ya, _, 0, _, rfl, rfl, sy, rfl, rfl, false, rfl, e2, _, _, rfl, step.symm, h62⟩
    · rintro σ H2 ⟨e2, f2, x3, rfl, hf2, h62⟩
      rw [lcx, List.take_length] at hf2
      refine ⟨e1.trans e2, f2, _, _, rfl, ?_, h62⟩
      rw [flat_take hcs, List.foldl_append, ← hf]
      exact hf2
  · rintro σ H1 ⟨e1, f, x2, x3, rfl, hf, h6⟩
    have all : (allC B).take (ms ++ gs).length = allC B := List.take_of_length_le (by
      unfold allC
      rw [List.length_append, List.length_append, List.length_map, List.length_map]
      omega)
    rw [all, allC_flat] at hf
    have hfr : f = B.rests := hf
    obtain ⟨z1, z6⟩ := pos_of_six h6
    have lw1 : LwB K H1 (.ref a) B := ⟨a, s0, m0, g0, ms, gs, rfl, lw.ex (eL.trans e1)⟩
    refine ⟨_, rfl, _, rfl, .ref a, B, rfl, lw1, ok, fun H2 r e2 r0 r3 => ⟨r, rfl, _, rfl, -r, f, rfl, rfl, ⟨by omega, by omega⟩, _, rfl, (by show 2 ≤ sizeLine; decide), fun M hM => ?_⟩⟩
    have up : -(Int.fdiv (-r) (f : Nat)) ≤ 3 := by
      have c1 : r = 0 ∨ r = 1 ∨ r = 2 ∨ r = 3 := by omega
      have c2 : f = 1 ∨ f = 2 ∨ f = 3 ∨ f = 4 ∨ f = 5 ∨ f = 6 := by omega
      rcases c1 with rfl | rfl | rfl | rfl <;> rcases c2 with c | c | c | c | c | c <;> (rw [c]; decide)
    refine ⟨M, [1, -(Int.fdiv (-r) (f : Nat))], rfl, Evl.sq_of upd_same, by simp, fun m hm hall => ?_⟩
    have m1 : 1 ≤ m := hall 1 List.mem_cons_self
    have m3 : m ≤ 3 := by
      simp only [List.mem_cons, List.not_mem_nil, or_false] at hm
      rcases hm with rfl | rfl
      · decide
      · exact up
    obtain ⟨mn, rfl⟩ : ∃ mn : Nat, m = (mn : Int) := ⟨m.toNat, by omega⟩
    have le : f * mn ≤ 6 * 3 := Nat.mul_le_mul z6 (by omega)
    refine ⟨f, mn, rfl, rfl, .inl ⟨by omega, by omega⟩, ?_⟩
    have k := q (upd H2 M (.lst [.int 1, .int (-(Int.fdiv (-r) (f : Nat)))])) (f * mn) (((eL.trans e1).trans e2).trans (Ex.new hM)) (by rw [← hfr]; exact Nat.dvd_mul_right f mn) (Nat.mul_pos z1 (by omega)) le
    rw [Int.natCast_mul] at k
    exact k
theorem rd__law_bound (vs : List V) (H : Hp) (Q : VK) (E0 : XK) (h : sp__law_bound w K vs H Q E0) : vs.length = 1 ∧ t__law_bound P w K { nx := fun _ H' => Q .non H', rt := Q } (start N__law_bound vs) H := by
  obtain ⟨v, B, rfl, ⟨a, s0, m0, g0, ms, gs, rfl, lw⟩, ok, q⟩ := h
  have lms : ms.length = B.moves.length := by rw [lw.am.1, List.length_map]
  have lgs : gs.length = B.goals.length := by rw [lw.ag.1, List.length_map]
  have m1 := ok.m1
  have g1 := ok.g1
  refine ⟨rfl, (by show 1 ≤ sizeLine; decide), fun S0 hS0 => ?_⟩
  have eS := Ex.new (o := .lst [.int 0]) hS0
  have lwS := lw.ex eS
  refine ⟨_, rfl, a, _, rfl, lwS.gm, _, rfl, a, _, rfl, lwS.gg, m0, g0, ms, gs, rfl, rfl, lwS.m, lwS.g, Evl.sz_of (by omega), fun L hL => ⟨L, rfl, ⟨_, Evl.sq_of upd_same⟩, ?_⟩⟩
  have eL := Ex.new (o := .lst (ms ++ gs)) hL
  have lenC := conds_len ok
  have take_le : ∀ i, ((allC B).take i).flatten.length ≤ 2400 := fun i => by
    have h := congrArg List.length (allC_flat B)
    rw [← List.take_append_drop i (allC B), List.flatten_append, List.length_append] at h
    omega
  refine for_it (walk_list (xs := ms ++ gs)) (fun i σ H' => Ex (upd (upd H S0 (.lst [.int 0])) L (.lst (ms ++ gs))) H' ∧ ∃ (S : Addr) (x2 : Option V), σ = [some (.ref a), some (.ref S), x2, none] ∧ H' S = some (.lst ((0 :: ((allC B).take i).flatten.filterMap Cd.size).map V.int))) ⟨.refl _, S0, none, rfl, eL _ _ upd_same⟩ (fun i σ H' _ z => Evl.sq_of (z.1 _ _ upd_same)) ?_ ?_
  · rintro i x σ H1 H1' hi ⟨e1, S, x2, rfl, hS⟩ ⟨rfl, hx⟩
    have lw1 := (lwS.ex eL).ex e1
    obtain ⟨p, pl, cp, cx, cs, r, rfl, sp, sc, ac, okc, hcs⟩ := item_tup lw1 ok hx
    have lcx : cx.length = cs.length := by rw [ac.1, List.length_map]
    have oc1 := okc.1
    refine ⟨_, rfl, _, rfl, p, _, 1, _, rfl, rfl, sp, atI_nat (j := 1) rfl, cp, rfl, ⟨_, sc⟩, fun D hD => ?_⟩
    refine lc_filt hD (walk_tup (xs := cx)) (by omega) (fun j => cs[j]?.bind fun c => c.size.map V.int) (fun H' e => Evl.ex_t e sc) ?_ ?_
    · rintro j y H2 H2' kk k0 hj e2 ⟨rfl, hy⟩ k1 k2
      have hcj : cs[j]? = some (cs[j]'(by omega)) := List.getElem?_eq_getElem (by omega)
      generalize cs[j]'(by omega) = cd at hcj
      have dy := (ac.2 j y _ hy (by rw [List.getElem?_map, hcj]; rfl)).tk (.ex e2)
      obtain ⟨ya, ys, rfl, sy, ay⟩ := dy.tupD
      rw [hcj] at k1 k2
      cases cd with
      | rs m r =>
        obtain ⟨u, v, z, rfl, d1, d2, d3⟩ := ay.three
        rw [d1.strD, d2.intD, d3.intD] at sy
        exact ⟨rfl, _, rfl, ya, _, 0, _, rfl, rfl, sy, rfl, rfl, false, rfl, k2 rfl _ (.refl _)⟩
      | le k | mo k | eq k | ne k =>
        obtain ⟨u, v, rfl, d1, d2⟩ := ay.two
        rw [d1.strD, d2.intD] at sy
        exact ⟨rfl, _, rfl, ya, _, 0, _, rfl, rfl, sy, rfl, rfl, true, rfl, _, rfl, ya, _, 1, _, rfl, rfl, sy, rfl, k, rfl, k1 _ _ rfl (.refl _)⟩
    · intro H2 e2 hl
      rw [lcx, fm_at] at hl
      have el : cs.filterMap (fun c => c.size.map V.int) = (cs.filterMap Cd.size).map V.int := by
        rw [List.map_filterMap]
      rw [el] at hl
      have t1 := take_le i
      have f1 := List.length_filterMap_le Cd.size ((allC B).take i).flatten
      have f2 := List.length_filterMap_le Cd.size cs
      refine ⟨S, D, _, _, rfl, rfl, e2 _ _ hS, hl, Evl.sz_of (by rw [List.length_map, List.length_map, List.length_cons]; omega), fun M hM => ⟨(e1.trans e2).trans (Ex.new hM), M, _, rfl, ?_⟩⟩
      rw [upd_same, flat_take hcs, List.filterMap_append, ← List.map_append, List.cons_append]
  · rintro σ H1 ⟨e1, S, x2, rfl, hS⟩
    have all : (allC B).take (ms ++ gs).length = allC B := List.take_of_length_le (by
      unfold allC
      rw [List.length_append, List.length_append, List.length_map, List.length_map]
      omega)
    rw [all, allC_flat] at hS
    refine ⟨_, rfl, S, 0 :: B.conds.filterMap Cd.size, rfl, Evl.sq_of hS, by simp, fun m hm hall => ?_⟩
    have pos : ∀ x ∈ B.conds.filterMap Cd.size, 0 ≤ x := fun x hx => by
      obtain ⟨c, hc, e⟩ := List.mem_filterMap.mp hx
      exact (size_bd (conds_ok ok c hc) e).1
    have e : m = B.bound := by
      unfold Bk.bound
      refine Int.le_antisymm ?_ (maxOr_le (hall 0 List.mem_cons_self) fun y hy => hall y (List.mem_cons_of_mem _ hy))
      rcases List.mem_cons.mp hm with rfl | hm
      · cases z : B.conds.filterMap Cd.size with
        | nil => exact Int.le_refl _
        | cons x l =>
          rw [z] at pos
          exact Int.le_trans (pos x List.mem_cons_self) (maxOr_ge List.mem_cons_self)
      · exact maxOr_ge hm
    rw [e]
    exact q H1 ((eS.trans eL).trans e1)
end
theorem ok__law_width {P : Program} {w : World} {K : PySem.W.Frag} {mg : Str → Option Value} {base : Heap} (E : Ctx w K mg) : DefOk P w K mg base "_law_width" [("_law_book" : Str)] 2 (sp__law_width w K) := by
  obtain ⟨fd, F⟩ := E.D__law_width
  exact ⟨_, fd, fn_mk (t := t__law_width P w K) F sc__law_width (rd__law_width E) (fun cdv A outer s H E0 hr => (pss_cons (ps_set (i := 1) sc__law_width.nd rfl (Or.inl rfl) pe_int)
    (pss_cons (ps_for PassesOwn.never rfl (pi_list (pe_op op_cat (pe_dget (hu_of hr) (pv 0) pe_str (fun _ _ => rfl)) (pe_dget (hu_of hr) (pv 0) pe_str (fun _ _ => rfl)))) (pg_name (i := 2) sc__law_width.nd rfl (Or.inl rfl))
    (pss_one (ps_for PassesOwn.never rfl (pi_tup (pe_ix ix_tup (pv 2) pe_int (fun _ _ => rfl))) (pg_name (i := 3) sc__law_width.nd rfl (Or.inl rfl))
    (pss_one (ps_if (pt_cmpR op_eq (pe_ix ix_tup (pv 3) pe_int (fun _ _ => rfl)) pe_str (nomark _))
    (pss_one (ps_set (i := 1) sc__law_width.nd rfl (Or.inl rfl) (pe_fn (ok__law_common E) (hr.mono (by decide)) (by rfl) (pa_cons (pv 1) (pa_cons (pe_ix ix_tup (pv 3) pe_int (fun _ _ => rfl)) pa_nil)))))
    pss_nil)))))
    (pss_one (ps_ret (pe_op op_mul (pv 1) (pe_callB (cr_max rfl) (by rfl) E.f_max (by decide +kernel) (pa_cons (pe_lst (pa_cons pe_int (pa_cons (pe_un un_neg (pe_op op_fdivN (pe_un un_neg (pe_fn (ok__law_reach E) (hr.mono (by decide)) (by rfl) (pa_cons (pv 0) pa_nil))) (pv 1))) pa_nil))) pa_nil)))))))), (FunD.bindsN F (fun _ _ _ _ _ _ us hl => match us, hl with | [_], _ => rfl)), E.g__law_width, F.kp⟩
theorem ok__law_bound {P : Program} {w : World} {K : PySem.W.Frag} {mg : Str → Option Value} {base : Heap} (E : Ctx w K mg) : DefOk P w K mg base "_law_bound" [("_law_book" : Str)] 1 (sp__law_bound w K) := by
  obtain ⟨fd, F⟩ := E.D__law_bound
  exact ⟨_, fd, fn_mk (t := t__law_bound P w K) F sc__law_bound (rd__law_bound E) (fun cdv A outer s H E0 hr => (pss_cons (ps_set (i := 1) sc__law_bound.nd rfl (Or.inl rfl) (pe_lst (pa_cons pe_int pa_nil)))
    (pss_cons (ps_for PassesOwn.never rfl (pi_list (pe_op op_cat (pe_dget (hu_of hr) (pv 0) pe_str (fun _ _ => rfl)) (pe_dget (hu_of hr) (pv 0) pe_str (fun _ _ => rfl)))) (pg_name (i := 2) sc__law_bound.nd rfl (Or.inl rfl))
    (pss_one (ps_set (i := 1) sc__law_bound.nd rfl (Or.inl rfl) (pe_op op_cat (pv 1) (pe_lc (own := [("_law_condition", 3)]) (wi := (iTup K (tOp (rIxT K) (tVar 2) (tC (.int 1))))) (g := (gName 3)) (tt := (tTest (tOp rNe (tOp (rIxT K) (tVar 3) (tC (.int 0))) (tC (.str "rest"))))) (te := (tCB rAbsI (tCons (tOp (rIxT K) (tVar 3) (tC (.int 1))) tNil))) rfl sc__law_bound.nd (pi_tup (pe_ix ix_tup (pv 2) pe_int (fun _ _ => rfl))) (blkOk_by (own := [("_law_condition", 3)]) (N := N__law_bound) (sc := defScope s__law_bound) (by decide +kernel)) (fun _ _ _ _ _ => (pg_name (i := 3) sc__law_bound.nd rfl (Or.inl rfl))) (fun _ _ _ _ _ => (pts_one (pt_cmpR op_ne (pe_ix ix_tup (pv 3) pe_int (fun _ _ => rfl)) pe_str (nomark _)))) (fun _ _ _ _ _ => (pe_callB call_abs (by rfl) E.f_abs (by decide +kernel) (pa_cons (pe_ix ix_tup (pv 3) pe_int (fun _ _ => rfl)) pa_nil))))))))
    (pss_one (ps_ret (pe_callB (cr_max rfl) (by rfl) E.f_max (by decide +kernel) (pa_cons (pv 1) pa_nil))))))), (FunD.bindsN F (fun _ _ _ _ _ _ us hl => match us, hl with | [_], _ => rfl)), E.g__law_bound, F.kp⟩
end K28

set_option Elab.async false
set_option linter.all false
set_option maxRecDepth 100000
set_option maxHeartbeats 4000000
namespace K28
open PySem PySem.Spec PyProof.Rows L2
open Evl (Ex)

/-! ## patterns and marks -/
/-- none, or a list of these at an address in S -/
def LsV (K : PySem.W.Frag) (S : Addr → Prop) (H : Hp) (v : V) : Option (List PyData) → Prop
  | none => v = .non
  | some ds => ∃ l ts, v = .ref l ∧ S l ∧ H l = some (.lst ts) ∧ DtAll K H ts ds
section
variable {K : PySem.W.Frag} {S S' F : Addr → Prop} {H H' : Hp} {v : V} {o : Option (List PyData)}
theorem LsV.kp (e : Kp K H H') (h : LsV K S H v o) : LsV K S H' v o := by
  cases o with
  | none => exact h
  | some ds =>
    obtain ⟨l, ts, e1, e2, e3, e4⟩ := h
    exact ⟨l, ts, e1, e2, e.l _ _ e3, e4.tk e.t⟩
theorem LsV.mono (n : ∀ a, S a → S' a) (h : LsV K S H v o) : LsV K S' H v o := by
  cases o with
  | none => exact h
  | some ds =>
    obtain ⟨l, ts, e1, e2, e3, e4⟩ := h
    exact ⟨l, ts, e1, n _ e2, e3, e4⟩
theorem LsV.updl {D : Addr} {zs : List V} (hl : LstAt H D) (n : ∀ a, S a → a ≠ D) (h : LsV K S H v o) : LsV K S (upd H D (.lst zs)) v o := by
  cases o with
  | none => exact h
  | some ds =>
    obtain ⟨l, ts, e1, e2, e3, e4⟩ := h
    exact ⟨l, ts, e1, e2, by rw [upd_ne (n _ e2)]; exact e3, e4.tk (.lst hl)⟩
end
def piD (z : Int × Nat) : PyData := .tuple [.int z.1, .int z.2]
def Pat (B : Bk) (p : Nat) (n : Int) : Option (List (Int × Nat)) := if B.goal p n = true then none else some ((B.opts p n).map fun o => (o.2.1, o.2.2))
def PatV (K : PySem.W.Frag) (S : Addr → Prop) (H : Hp) (v : V) (o : Option (List (Int × Nat))) : Prop := LsV K S H v (o.map fun l => l.map piD)
def sp__law_pattern (w : World) (K : PySem.W.Frag) : Sp := fun vs H Q _ => ∃ (v : V) (B : Bk) (p : Nat) (n : Int), vs = [v, .int p, .int n] ∧ LwB K H v B ∧ B.Ok ∧ ∀ H' x, Ex H H' → PatV K (fun a => H a = none) H' x (Pat B p n) → Q x H'
def N__law_pattern : List Str := ["_law_book", "_law_place", "_law_n", "_law_index"]
theorem sc__law_pattern : FnScope N__law_pattern ["_law_book", "_law_place", "_law_n"] (defScope s__law_pattern) := ⟨rfl, rfl, rfl, by decide +kernel, rfl, by decide +kernel, by decide +kernel⟩
/-- names: 0 _law_book* 1 _law_place 2 _law_n 3 _law_index -/
def t__law_pattern (P : Program) (w : World) (K : PySem.W.Frag) : TS :=
    (tSeq (tIfS (tB (tFn (sp__law_is_goal w K) (tCons (tVar 0) (tCons (tVar 1) (tCons (tVar 2) tNil)))))
    (tRet (tC .non))
    tNext)
    (tRet (tLc (iList K (tFn (sp__law_open w K) (tCons (tVar 0) (tCons (tVar 1) (tCons (tVar 2) tNil))))) (gName 3) tYes (tTup (tCons (tOp (rIxT K) (tOp (rIxL K) (tDGet (tVar 0) (tC (.str "moves"))) (tVar 3)) (tC (.int 2))) (tCons (tOp (rIxT K) (tOp (rIxL K) (tDGet (tVar 0) (tC (.str "moves"))) (tVar 3)) (tC (.int 3))) tNil))) [3])))
section
variable {P : Program} {w : World} {K : PySem.W.Frag} {mg : Str → Option Value} (E : Ctx w K mg)
include E
theorem rd__law_pattern (vs : List V) (H : Hp) (Q : VK) (E0 : XK) (h : sp__law_pattern w K vs H Q E0) : vs.length = 3 ∧ t__law_pattern P w K { nx := fun _ H' => Q .non H', rt := Q } (start N__law_pattern vs) H := by
  obtain ⟨v, B, p, n, rfl, lwb, ok, q⟩ := h
  refine ⟨rfl, _, rfl, _, rfl, _, rfl, v, B, p, n, rfl, lwb, ok, fun H1 e1 => ⟨_, rfl, ?_⟩⟩
  refine ite2 (fun g => q H1 _ e1 ?_) fun g => ?_
  · unfold PatV Pat
    rw [if_pos g]
    exact rfl
  · refine ⟨_, rfl, _, rfl, _, rfl, v, B, p, n, rfl, lwb.ex e1, ok, fun H2 l e2 hl0 hl => ⟨l, rfl, ⟨_, Evl.sq_of hl⟩, fun D hD => ?_⟩⟩
    have m1 := ok.m1
    have len : (B.opn p n).length ≤ B.moves.length := by
      unfold Bk.opn
      exact Nat.le_trans (List.length_filter_le _ _) (by simp)
    have nD : H D = none := Evl.fresh_back (e1.trans e2) hD
    refine lc_map noS (fun _ z => z.elim) hD (walk_list (xs := (B.opn p n).map fun i : Nat => V.int i)) (by rw [List.length_map]; omega) (fun i v H' => ∃ o, (B.opts p n)[i]? = some o ∧ Dt K H' v (piD (o.2.1, o.2.2))) (fun _ _ => True) (fun i H' e _ => Evl.sq_of (e.ex _ _ hl)) trivial ?_ (fun _ _ _ _ _ _ => trivial) ?_ ?_ ?_
    · exact fun i v H' zs hl e ⟨d, q1, q2⟩ => ⟨d, q1, q2.tk (.lst hl)⟩
    · exact fun i v H' H'' j hl e e2 _ _ ⟨d, q1, q2⟩ => ⟨d, q1, q2.tk (.ex e2.ex)⟩
    · rintro i x H' H'' k hi hl' e - ⟨rfl, hx⟩ kk
      rw [List.length_map] at hi
      rw [List.getElem?_map, List.getElem?_eq_getElem hi] at hx
      cases hx
      have mem : (B.opn p n)[i] ∈ B.opn p n := List.getElem_mem _
      generalize hj : (B.opn p n)[i] = j at mem
      unfold Bk.opn at mem
      have jl : j < B.moves.length := by
        have := (List.mem_filter.mp mem).1
        simpa using this
      have hm : B.moves[j]? = some B.moves[j] := List.getElem?_eq_getElem jl
      generalize B.moves[j] = mv at hm
      obtain ⟨a, s0, m0, g0, ms, gs, rfl, lw⟩ := lwb.ex ((e1.trans e2).trans e.ex)
      have lms : ms.length = B.moves.length := by rw [lw.am.1, List.length_map]
      have hv : ms[j]? = some (ms[j]'(by omega)) := List.getElem?_eq_getElem (by omega)
      generalize ms[j]'(by omega) = mvv at hv
      obtain ⟨xa, cv, rfl, sx, dcv⟩ := mv_tup (lw.am.2 j _ _ hv (by rw [List.getElem?_map, hm]; rfl))
      refine ⟨rfl, _, rfl, a, _, rfl, lw.gm, _, rfl, m0, ms, (j : Nat), _, rfl, rfl, Evl.sq_of lw.m, atI_nat hv, xa, _, 2, _, rfl, rfl, sx, rfl, ?_⟩
      refine ⟨_, rfl, a, _, rfl, lw.gm, _, rfl, m0, ms, (j : Nat), _, rfl, rfl, Evl.sq_of lw.m, atI_nat hv, xa, _, 3, _, rfl, rfl, sx, rfl, (by show 2 ≤ sizeLine; decide), fun T hT => ?_⟩
      refine kk _ _ (.of (Ex.new hT)) ⟨optOf B j, ?_, ?_⟩ trivial
      · unfold Bk.opts
        rw [List.getElem?_map, List.getElem?_eq_getElem hi, hj]
        rfl
      · rw [optOf_of hm]
        exact Dt.mk (Evl.st_of upd_same) (.cons (.int _) (.one (.int _)))
    · intro acc H' e hl2 len2 z _
      refine q H' _ ((e1.trans e2).trans e.ex) ?_
      unfold PatV Pat
      rw [if_neg g]
      refine ⟨D, acc, rfl, nD, hl2, ?_, fun i v d a b => ?_⟩
      · rw [len2, List.length_map, List.length_map, List.length_map]
        unfold Bk.opts
        rw [List.length_map]
      · obtain ⟨o, q1, q2⟩ := z i v a
        rw [List.getElem?_map, List.getElem?_map, q1] at b
        cases b
        exact q2
end
theorem ok__law_pattern {P : Program} {w : World} {K : PySem.W.Frag} {mg : Str → Option Value} {base : Heap} (E : Ctx w K mg) : DefOk P w K mg base "_law_pattern" [("_law_book" : Str), ("_law_place" : Str), ("_law_n" : Str)] 3 (sp__law_pattern w K) := by
  obtain ⟨fd, F⟩ := E.D__law_pattern
  exact ⟨_, fd, fn_mk (t := t__law_pattern P w K) F sc__law_pattern (rd__law_pattern E) (fun cdv A outer s H E0 hr => (pss_cons (ps_if (pt_val (pe_fn (ok__law_is_goal E) (hr.mono (by decide)) (by rfl) (pa_cons (pv 0) (pa_cons (pv 1) (pa_cons (pv 2) pa_nil)))))
    (pss_one (ps_ret pe_non))
    pss_nil)
    (pss_one (ps_ret (pe_lc (own := [("_law_index", 3)]) (wi := (iList K (tFn (sp__law_open w K) (tCons (tVar 0) (tCons (tVar 1) (tCons (tVar 2) tNil)))))) (g := (gName 3)) (tt := tYes) (te := (tTup (tCons (tOp (rIxT K) (tOp (rIxL K) (tDGet (tVar 0) (tC (.str "moves"))) (tVar 3)) (tC (.int 2))) (tCons (tOp (rIxT K) (tOp (rIxL K) (tDGet (tVar 0) (tC (.str "moves"))) (tVar 3)) (tC (.int 3))) tNil)))) rfl sc__law_pattern.nd (pi_list (pe_fn (ok__law_open E) (hr.mono (by decide)) (by rfl) (pa_cons (pv 0) (pa_cons (pv 1) (pa_cons (pv 2) pa_nil))))) (blkOk_by (own := [("_law_index", 3)]) (N := N__law_pattern) (sc := defScope s__law_pattern) (by decide +kernel)) (fun _ _ _ _ _ => (pg_name (i := 3) sc__law_pattern.nd rfl (Or.inl rfl))) (fun _ _ _ _ _ => pts_nil) (fun _ _ _ _ _ => (pe_tup (pa_cons (pe_ix ix_tup (pe_ix ix_list (pe_dget (hu_of hr) (pv 0) pe_str (fun _ _ => rfl)) (pv 3) (fun _ _ => rfl)) pe_int (fun _ _ => rfl)) (pa_cons (pe_ix ix_tup (pe_ix ix_list (pe_dget (hu_of hr) (pv 0) pe_str (fun _ _ => rfl)) (pv 3) (fun _ _ => rfl)) pe_int (fun _ _ => rfl)) pa_nil))))))))), (FunD.bindsN F (fun _ _ _ _ _ _ us hl => match us, hl with | [_, _, _], _ => rfl)), E.g__law_pattern, F.kp⟩
/-! ## pairs in order, each once -/
def LexLt (a b : Int × Int) : Prop := a.1 < b.1 ∨ (a.1 = b.1 ∧ a.2 < b.2)
instance (a b : Int × Int) : Decidable (LexLt a b) := by unfold LexLt; infer_instance
def insP (z : Int × Int) : List (Int × Int) → List (Int × Int)
  | [] => [z]
  | y :: l => if LexLt z y then z :: y :: l else if LexLt y z then y :: insP z l else y :: l
def canonP (l : List (Int × Int)) : List (Int × Int) := l.foldr insP []
theorem LexLt.trans {a b c : Int × Int} (h : LexLt a b) (k : LexLt b c) : LexLt a c := by
  unfold LexLt at *
  omega
theorem LexLt.irr {a : Int × Int} (h : LexLt a a) : False := by
  unfold LexLt at h
  omega
theorem lex_eq {a b : Int × Int} (h : ¬ LexLt a b) (k : ¬ LexLt b a) : a = b := by
  unfold LexLt at h k
  exact Prod.ext (by omega) (by omega)
theorem mem_ins {x z : Int × Int} : ∀ {l : List (Int × Int)}, x ∈ insP z l ↔ x = z ∨ x ∈ l
  | [] => by simp [insP]
  | y :: l => by
    unfold insP
    split
    · rw [List.mem_cons]
    · split
      · rw [List.mem_cons, List.mem_cons, mem_ins (l := l)]
        constructor
        · rintro (h | h | h)
          · exact .inr (.inl h)
          · exact .inl h
          · exact .inr (.inr h)
        · rintro (h | h | h)
          · exact .inr (.inl h)
          · exact .inl h
          · exact .inr (.inr h)
      · rename_i h1 h2
        rw [lex_eq h1 h2, List.mem_cons]
        constructor
        · exact .inr
        · rintro (h | h)
          · exact .inl h
          · exact h
theorem ins_sorted {z : Int × Int} : ∀ {l : List (Int × Int)}, l.Pairwise LexLt → (insP z l).Pairwise LexLt
  | [], _ => List.pairwise_singleton _ _
  | y :: l, h => by
    obtain ⟨h1, h2⟩ := List.pairwise_cons.mp h
    unfold insP
    split
    · rename_i c
      refine List.pairwise_cons.mpr ⟨fun x hx => ?_, h⟩
      rcases List.mem_cons.mp hx with rfl | hx
      · exact c
      · exact c.trans (h1 x hx)
    · split
      · rename_i c
        refine List.pairwise_cons.mpr ⟨fun x hx => ?_, ins_sorted h2⟩
        rcases mem_ins.mp hx with rfl | hx
        · exact c
        · exact h1 x hx
      · exact h
theorem canon_sorted : ∀ l : List (Int × Int), (canonP l).Pairwise LexLt
  | [] => List.Pairwise.nil
  | z :: l => ins_sorted (canon_sorted l)
theorem mem_canon {x : Int × Int} : ∀ {l : List (Int × Int)}, x ∈ canonP l ↔ x ∈ l
  | [] => Iff.rfl
  | z :: l => by
    show x ∈ insP z (canonP l) ↔ _
    rw [mem_ins, mem_canon (l := l), List.mem_cons]
theorem sorted_uniq : ∀ {l m : List (Int × Int)}, l.Pairwise LexLt → m.Pairwise LexLt → (∀ x, x ∈ l ↔ x ∈ m) → l = m
  | [], [], _, _, _ => rfl
  | [], y :: m, _, _, h => absurd ((h y).mpr List.mem_cons_self) (by simp)
  | x :: l, [], _, _, h => absurd ((h x).mp List.mem_cons_self) (by simp)
  | x :: l, y :: m, h1, h2, h => by
    obtain ⟨a1, a2⟩ := List.pairwise_cons.mp h1
    obtain ⟨b1, b2⟩ := List.pairwise_cons.mp h2
    have e : x = y := by
      have c1 := (h x).mp List.mem_cons_self
      have c2 := (h y).mpr List.mem_cons_self
      rcases List.mem_cons.mp c1 with c1 | c1
      · exact c1
      · rcases List.mem_cons.mp c2 with c2 | c2
        · exact c2.symm
        · exact (LexLt.irr ((a1 y c2).trans (b1 x c1))).elim
    subst e
    rw [sorted_uniq a2 b2 fun z => ?_]
    have hz := h z
    rw [List.mem_cons, List.mem_cons] at hz
    constructor
    · intro q
      rcases hz.mp (.inr q) with r | r
      · exact (LexLt.irr (r ▸ a1 z q)).elim
      · exact r
    · intro q
      rcases hz.mpr (.inr q) with r | r
      · exact (LexLt.irr (r ▸ b1 z q)).elim
      · exact r
theorem canon_eq {l m : List (Int × Int)} : canonP l = canonP m ↔ ∀ x, x ∈ l ↔ x ∈ m :=
  ⟨fun e x => by rw [← mem_canon (l := l), e, mem_canon], fun h => sorted_uniq (canon_sorted l) (canon_sorted m) fun x => by rw [mem_canon, mem_canon, h]⟩
end K28

set_option Elab.async false
set_option linter.all false
set_option maxRecDepth 100000
set_option maxHeartbeats 4000000
namespace K28
open PySem PySem.Spec PyProof.Rows L2
open Evl (Ex)

abbrev MarkT := Int × List (Option (List (Int × Int)))
def rowO (o : Option (List (Int × Int))) : Option (List PyData) := o.map fun l => l.map PySem.W.Datum.toD
def SheetL (K : PySem.W.Frag) (S : Addr → Prop) (H : Hp) (v : V) (side : Int) (off : Nat) (pats : List (Option (List (Int × Nat)))) : Prop := ∃ T Pd ps, v = .ref T ∧ SqT K H T [.int side, .ref Pd, .int off] ∧ S Pd ∧ H Pd = some (.lst ps) ∧ Al (PatV K S H) ps pats
def MarkV (K : PySem.W.Frag) (S : Addr → Prop) (H : Hp) (v : V) (m : MarkT) : Prop := ∃ l rs, v = .ref l ∧ S l ∧ H l = some (.lst (.int m.1 :: rs)) ∧ Al (fun v o => LsV K S H v (rowO o)) rs m.2
def rowOf (fs : List Int) (off : Nat) (o : Option (List (Int × Nat))) : Option (List (Int × Int)) := o.map fun l => canonP (l.map fun z => (z.1, fs.getD (off + z.2) 0))
def markOf (fs : List Int) (side : Int) (off : Nat) (pats : List (Option (List (Int × Nat)))) : MarkT := (side, pats.map (rowOf fs off))
def sp__law_mark (w : World) (K : PySem.W.Frag) : Sp := fun vs H Q _ => ∃ (v : V) (fl : Addr) (side : Int) (off : Nat) (pats : List (Option (List (Int × Nat)))) (fs : List Int), vs = [v, .ref fl] ∧ SheetL K (fun _ => True) H v side off pats ∧ H fl = some (.lst (fs.map V.int)) ∧ (∀ f ∈ fs, 0 ≤ f ∧ f < 64) ∧
  (∀ l, some l ∈ pats → l.length ≤ 60 ∧ ∀ z ∈ l, off + z.2 < fs.length) ∧ pats.length ≤ 5000 ∧ ∀ H' x, Ex H H' → MarkV K (fun a => H a = none) H' x (markOf fs side off pats) → Q x H'
def N__law_mark : List Str := ["_law_sheet", "_law_found", "_law_side", "_law_patterns", "_law_by", "_law_rows", "_law_pattern_here", "_law_shift", "_law_target"]
theorem sc__law_mark : FnScope N__law_mark ["_law_sheet", "_law_found"] (defScope s__law_mark) := ⟨rfl, rfl, rfl, by decide +kernel, rfl, by decide +kernel, by decide +kernel⟩
/-- names: 0 _law_sheet 1 _law_found* 2 _law_side 3 _law_patterns 4 _law_by* 5 _law_rows 6 _law_pattern_here 7 _law_shift 8 _law_target -/
def t__law_mark (P : Program) (w : World) (K : PySem.W.Frag) : TS :=
    (tSeq (tAsg (tVar 0) (gTup K 3 (gCons (gName 2) (gCons (gName 3) (gCons (gName 4) gNil)))))
    (tSeq (tAsg (tLst (tCons (tVar 2) tNil)) (gName 5))
    (tSeq (tFor (iList K (tVar 3)) (gName 6)
    (tIfS (tTest (tOp rIsNn (tVar 6) (tC .non)))
    (tDrop (tBM K "list" rAppend (tVar 5) (tCons (tC .non) tNil)))
    (tDrop (tBM K "list" rAppend (tVar 5) (tCons (tCB (rSortedP2 K P w) (tCons (tCB (rSetOfT K P w) (tCons (tLc (iList K (tVar 6)) (gTup K 2 (gCons (gName 7) (gCons (gName 8) gNil))) tYes (tTup (tCons (tVar 7) (tCons (tOp (rIxL K) (tVar 1) (tOp rAddI (tVar 4) (tVar 8))) tNil))) [7, 8]) tNil)) tNil)) tNil)))))
    (tRet (tVar 5)))))
/-- the addresses with their pairs -/
theorem al_keys {H : Hp} : ∀ {acc : List V} {vals : List (Int × Int)}, Al (fun v (z : Int × Int) => ∃ b, v = .ref b ∧ H b = some (.tup [.int z.1, .int z.2])) acc vals →
    ∃ ks : List (Addr × List Int), ks.map (fun k => V.ref k.1) = acc ∧ ks.map (·.2) = vals.map (fun z => [z.1, z.2]) ∧ ∀ k ∈ ks, H k.1 = some (.tup (k.2.map V.int))
  | [], [], _ => ⟨[], rfl, rfl, fun k hk => by cases hk⟩
  | [], _ :: _, h => absurd h.1 (by simp)
  | _ :: _, [], h => absurd h.1 (by simp)
  | v :: acc, z :: vals, h => by
    obtain ⟨b, e, hb⟩ := h.2 0 v z rfl rfl
    obtain ⟨ks, e1, e2, e3⟩ := al_keys (acc := acc) (vals := vals) ⟨by have := h.1; simpa using this, fun i v y p q => h.2 (i + 1) v y p q⟩
    refine ⟨(b, [z.1, z.2]) :: ks, by rw [List.map_cons, e1, e], by rw [List.map_cons, e2]; rfl, fun k hk => ?_⟩
    rcases List.mem_cons.mp hk with rfl | hk
    · exact hb
    · exact e3 k hk
/-- what the sort left is the canonical list -/
theorem canon_of {M : List (Addr × List Int)} {vals : List (Int × Int)} (two : ∀ k ∈ M, ∃ z ∈ vals, k.2 = [z.1, z.2]) (all : ∀ z ∈ vals, ∃ k ∈ M, k.2 = [z.1, z.2]) (nd : (M.map (·.2)).Nodup) (pw : M.Pairwise (fun a b => rk2 a.2 ≤ rk2 b.2)) (bd : ∀ z ∈ vals, 0 ≤ z.2 ∧ z.2 < 64) :
    ∀ {ts : List V} {H : Hp} {K : PySem.W.Frag}, ts = M.map (fun k => V.ref k.1) → (∀ k ∈ M, SqT K H k.1 (k.2.map V.int)) → DtAll K H ts ((canonP vals).map PySem.W.Datum.toD) := by
  intro ts H K e sq
  let g : Addr × List Int → Int × Int := fun k => (k.2.getD 0 0, k.2.getD 1 0)
  have gk : ∀ k ∈ M, k.2 = [(g k).1, (g k).2] ∧ g k ∈ vals := fun k hk => by
    obtain ⟨z, hz, ez⟩ := two k hk
    have eg : g k = z := by
      show (k.2.getD 0 0, k.2.getD 1 0) = z
      rw [ez]
      rfl
    rw [eg]
    exact ⟨ez, hz⟩
  have eC : M.map g = canonP vals := by
    refine sorted_uniq ?_ (canon_sorted vals) fun x => ?_
    · refine List.pairwise_map.mpr ?_
      have both := pw.and (List.pairwise_map.mp nd)
      refine List.Pairwise.imp_of_mem (fun {a b} ha hb h => ?_) both
      obtain ⟨h1, h2⟩ := h
      obtain ⟨ea, ma⟩ := gk a ha
      obtain ⟨eb, mb⟩ := gk b hb
      have ba := bd _ ma
      have bb := bd _ mb
      rw [ea, eb] at h1 h2
      have r1 : rk2 [(g a).1, (g a).2] = (g a).1 * 64 + (g a).2 := code_pair _ _
      have r2 : rk2 [(g b).1, (g b).2] = (g b).1 * 64 + (g b).2 := code_pair _ _
      rw [r1, r2] at h1
      have ne : g a ≠ g b := fun z => h2 (by rw [z])
      have ne2 : ¬ ((g a).1 = (g b).1 ∧ (g a).2 = (g b).2) := fun z => ne (Prod.ext z.1 z.2)
      unfold LexLt
      omega
    · rw [mem_canon, List.mem_map]
      constructor
      · rintro ⟨k, hk, rfl⟩
        exact (gk k hk).2
      · intro hx
        obtain ⟨k, hk, ek⟩ := all x hx
        refine ⟨k, hk, ?_⟩
        show (k.2.getD 0 0, k.2.getD 1 0) = x
        rw [ek]
        rfl
  rw [← eC]
  subst e
  refine ⟨by rw [List.length_map, List.length_map, List.length_map], fun i v d a b => ?_⟩
  rw [List.getElem?_map] at a
  rw [List.getElem?_map, List.getElem?_map] at b
  cases q : M[i]? with
  | none => rw [q] at a; cases a
  | some k =>
    rw [q] at a b
    cases a
    cases b
    have mk := List.mem_of_getElem? q
    have s := sq k mk
    obtain ⟨ek, _⟩ := gk k mk
    rw [ek] at s
    exact Dt.mk s (.cons (.int _) (.one (.int _)))
section
variable {P : Program} {w : World} {K : PySem.W.Frag} {mg : Str → Option Value} (E : Ctx w K mg)
include E
theorem rd__law_mark (vs : List V) (H : Hp) (Q : VK) (E0 : XK) (h : sp__law_mark w K vs H Q E0) : vs.length = 2 ∧ t__law_mark P w K { nx := fun _ H' => Q .non H', rt := Q } (start N__law_mark vs) H := by
  obtain ⟨v, fl, side, off, pats, fs, rfl, ⟨T, Pd, ps, rfl, sT, _, hPd, al⟩, hfl, bf, bp, lp, q⟩ := h
  refine ⟨rfl, _, rfl, T, _, rfl, sT, rfl, _, _, rfl, _, _, rfl, _, _, rfl, rfl, ?_⟩
  refine ⟨_, rfl, (by show 1 ≤ sizeLine; decide), fun R hR => ?_⟩
  have eR := Ex.new (o := .lst [.int side]) hR
  refine ⟨_, rfl, Pd, rfl, ⟨_, Evl.sq_of (eR _ _ hPd)⟩, ?_⟩
  have lps : ps.length = pats.length := al.1
  refine for_it (walk_list (xs := ps)) (fun i σ H' => (∃ x6, σ = [some (.ref T), some (.ref fl), some (.int side), some (.ref Pd), some (.int off), some (.ref R), x6, none, none]) ∧ Ex H H' ∧ ∃ rs, H' R = some (.lst (.int side :: rs)) ∧ rs.length = i ∧ ∀ (j : Nat) (v : V), rs[j]? = some v → ∃ o, pats[j]? = some o ∧ LsV K (fun a => H a = none ∧ a ≠ R) H' v (rowO (rowOf fs off o)))
    ⟨⟨none, rfl⟩, eR, [], upd_same, rfl, fun j v z => by simp at z⟩ (fun i σ H' _ z => Evl.sq_of (z.2.1 _ _ hPd)) ?_ ?_
  · rintro i x σ H1 H1' hi ⟨⟨x6, rfl⟩, e1, rs, hRs, lrs, rowsOk⟩ ⟨rfl, hx⟩
    obtain ⟨o, ho, pv⟩ := al.get hx
    have pv1 : PatV K (fun _ => True) H1' x o := LsV.kp (.ex e1) pv
    -- the row is put
    have put : ∀ (H2 : Hp) (y : V), Ex H1' H2 → LsV K (fun a => H a = none ∧ a ≠ R) H2 y (rowO (rowOf fs off o)) → rAppend (.ref R) [y] H2 fun _ H3 => ((∃ x6, [some (.ref T), some (.ref fl), some (.int side), some (.ref Pd), some (.int off), some (.ref R), some x, none, none] = [some (.ref T), some (.ref fl), some (.int side), some (.ref Pd), some (.int off), some (.ref R), x6, none, none]) ∧ Ex H H3 ∧ ∃ rs, H3 R = some (.lst (.int side :: rs)) ∧ rs.length = i + 1 ∧ ∀ (j : Nat) (v : V), rs[j]? = some v → ∃ o, pats[j]? = some o ∧ LsV K (fun a => H a = none ∧ a ≠ R) H3 v (rowO (rowOf fs off o))) := by
      intro H2 y e2 ly
      have hR2 := e2 _ _ hRs
      refine ⟨R, _, y, rfl, rfl, hR2, Evl.sz_lt (by rw [List.length_cons]; omega), ⟨_, rfl⟩, (e1.trans e2).mut hR, rs ++ [y], ?_, by rw [List.length_append, lrs]; rfl, fun j v hv => ?_⟩
      · rw [upd_same]
        rfl
      · by_cases hj : j < rs.length
        · rw [List.getElem?_append_left hj] at hv
          obtain ⟨o2, q1, q2⟩ := rowsOk j v hv
          exact ⟨o2, q1, (q2.kp (.ex e2)).updl ⟨_, hR2⟩ fun a ha => ha.2⟩
        · have hj2 : j = rs.length := by
            have := (List.getElem?_eq_some_iff.mp hv).1
            rw [List.length_append, List.length_singleton] at this
            omega
          subst hj2
          rw [List.getElem?_concat_length] at hv
          cases hv
          refine ⟨o, by rw [lrs]; exact ho, ly.updl ⟨_, hR2⟩ fun a ha => ha.2⟩
    cases o with
    | none =>
      have ex : x = .non := pv1
      subst ex
      refine ⟨_, rfl, rfl, true, rfl, _, rfl, .inl ⟨rfl, _, Evl.sq_of hRs⟩, put H1' .non (.refl _) rfl⟩
    | some l =>
      obtain ⟨pl, ts, rfl, _, hpl, dts⟩ := pv1
      have lts : ts.length = l.length := by rw [dts.1, List.length_map]
      obtain ⟨l60, offs⟩ := bp l (List.mem_of_getElem? ho)
      refine ⟨_, rfl, rfl, false, rfl, _, rfl, .inl ⟨rfl, _, Evl.sq_of hRs⟩, _, rfl, pl, rfl, ⟨_, Evl.sq_of hpl⟩, fun D hD => ?_⟩
      refine lc_map noS (fun _ z => z.elim) hD (walk_list (xs := ts)) (by omega) (fun j v H' => ∃ z, (l.map fun z => (z.1, fs.getD (off + z.2) 0))[j]? = some z ∧ ∃ b, v = .ref b ∧ H' b = some (.tup [.int z.1, .int z.2])) (fun _ _ => True) (fun j H' e _ => Evl.sq_of (e.ex _ _ hpl)) trivial ?_ (fun _ _ _ _ _ _ => trivial) ?_ ?_ ?_
      · rintro j v H' zs ⟨ws, hw⟩ e ⟨z, q1, b, q2, q3⟩
        exact ⟨z, q1, b, q2, by rw [upd_ne (ne_of q3 hw (by intro z; cases z))]; exact q3⟩
      · exact fun j v H' H'' k hl e e2 _ _ ⟨z, q1, b, q2, q3⟩ => ⟨z, q1, b, q2, e2.ex _ _ q3⟩
      · rintro j y H2 H2' kk hj hl e2 - ⟨rfl, hy⟩ k1
        have hlj : l[j]? = some (l[j]'(by omega)) := List.getElem?_eq_getElem (by omega)
        have mz : l[j]'(by omega) ∈ l := List.getElem_mem _
        generalize l[j]'(by omega) = z at hlj mz
        have dy := (dts.2 j y _ hy (by rw [List.getElem?_map, hlj]; rfl)).tk (.ex e2.ex)
        obtain ⟨ya, ys, rfl, sy, ay⟩ := dy.tupD
        obtain ⟨u, v, rfl, d1, d2⟩ := ay.two
        rw [d1.intD, d2.intD] at sy
        have lt := offs z mz
        have hf2 : H2' fl = some (.lst (fs.map V.int)) := (e1.trans e2.ex) _ _ hfl
        have hat : (fs.map V.int)[off + z.2]? = some (.int (fs.getD (off + z.2) 0)) := by
          rw [List.getElem?_map, List.getElem?_eq_getElem lt, List.getD_eq_getElem?_getD, List.getElem?_eq_getElem lt]
          rfl
        have eoff : ((off : Nat) : Int) + ((z.2 : Nat) : Int) = ((off + z.2 : Nat) : Int) := by omega
        refine ⟨ya, _, rfl, sy, rfl, _, _, rfl, _, _, rfl, rfl, rfl, _, rfl, _, rfl, _, rfl, _, rfl, off, z.2, rfl, rfl, fl, _, _, .int (fs.getD (off + z.2) 0), rfl, rfl, Evl.sq_of hf2, ?_, (by show 2 ≤ sizeLine; decide), fun T2 hT2 => ?_⟩
        · show atI (fs.map V.int) (((off : Nat) : Int) + ((z.2 : Nat) : Int)) = _
          rw [eoff]
          exact atI_nat hat
        · exact k1 _ _ (.of (Ex.new hT2)) ⟨(z.1, fs.getD (off + z.2) 0), by rw [List.getElem?_map, hlj]; rfl, T2, rfl, upd_same⟩ trivial
      · intro acc H2 e2 hl2 len2 zz _
        have al2 : Al (fun v (z : Int × Int) => ∃ b, v = .ref b ∧ H2 b = some (.tup [.int z.1, .int z.2])) acc (l.map fun z => (z.1, fs.getD (off + z.2) 0)) := ⟨by rw [len2, List.length_map]; exact lts, fun j v y hv hy => by
          obtain ⟨z, q1, b, q2, q3⟩ := zz j v hv
          rw [hy] at q1
          cases q1
          exact ⟨b, q2, q3⟩⟩
        obtain ⟨ks, k1, k2, k3⟩ := al_keys al2
        have lks : ks.length = l.length := by
          have := congrArg List.length k1
          rw [List.length_map] at this
          omega
        refine ⟨D, ks, rfl, by rw [k1]; exact Evl.sq_of hl2, fun k hk => Evl.st_of (k3 k hk), by omega, fun st L hst sub full => ?_⟩
        have e3 := Ex.new (o := SetTO P w st L) hst
        have val : ∀ k ∈ ks, ∃ z ∈ l.map (fun z => (z.1, fs.getD (off + z.2) 0)), k.2 = [z.1, z.2] := fun k hk => by
          have : k.2 ∈ ks.map (·.2) := List.mem_map.mpr ⟨k, hk, rfl⟩
          rw [k2] at this
          obtain ⟨z, hz, e⟩ := List.mem_map.mp this
          exact ⟨z, hz, e.symm⟩
        have bdv : ∀ z ∈ l.map (fun z => (z.1, fs.getD (off + z.2) 0)), 0 ≤ z.2 ∧ z.2 < 64 := fun z hz => by
          obtain ⟨y, hy, rfl⟩ := List.mem_map.mp hz
          have lt := offs y hy
          show 0 ≤ fs.getD (off + y.2) 0 ∧ fs.getD (off + y.2) 0 < 64
          rw [List.getD_eq_getElem?_getD, List.getElem?_eq_getElem lt]
          exact bf _ (List.getElem_mem lt)
        refine ⟨st, L, rfl, upd_same, fun k hk => Evl.st_of (e3 _ _ (k3 k (sub k hk))), fun k hk => ?_, fun M d pm nd few pw hd => ?_⟩
        · obtain ⟨z, hz, e⟩ := val k (sub k hk)
          exact ⟨z.1, z.2, e, bdv z hz⟩
        · have e4 := Ex.new (o := .lst (M.map fun z => V.ref z.1)) hd
          refine put _ _ (e2.ex.trans (e3.trans e4)) ⟨d, M.map (fun z => V.ref z.1), rfl, ⟨?_, ?_⟩, upd_same, ?_⟩
          · exact Evl.fresh_back (e1.trans (e2.ex.trans e3)) hd
          · intro z
            have := (e2.ex.trans e3) _ _ hRs
            rw [← z, hd] at this
            cases this
          · refine canon_of (M := M) (fun k hk => val k (sub k (pm.mem_iff.mp hk))) (fun z hz => ?_) nd pw bdv rfl fun k hk => Evl.st_of ((e3.trans e4) _ _ (k3 k (sub k (pm.mem_iff.mp hk))))
            have : [z.1, z.2] ∈ ks.map (·.2) := by
              rw [k2]
              exact List.mem_map.mpr ⟨z, hz, rfl⟩
            obtain ⟨k, hk, ek⟩ := List.mem_map.mp this
            obtain ⟨k', hk', ek'⟩ := List.mem_map.mp (full k hk)
            exact ⟨k', pm.mem_iff.mpr hk', by rw [ek', ek]⟩
  · rintro σ H1 ⟨⟨x6, rfl⟩, e1, rs, hRs, lrs, rowsOk⟩
    refine ⟨_, rfl, q H1 _ e1 ⟨R, rs, rfl, hR, hRs, ?_⟩⟩
    refine ⟨by show rs.length = (pats.map _).length; rw [List.length_map]; omega, fun j v y hv hy => ?_⟩
    obtain ⟨o, q1, q2⟩ := rowsOk j v hv
    have hy2 : (pats.map (rowOf fs off))[j]? = some y := hy
    rw [List.getElem?_map, q1] at hy2
    cases hy2
    exact q2.mono fun a ha => ha.1
end
theorem ok__law_mark {P : Program} {w : World} {K : PySem.W.Frag} {mg : Str → Option Value} {base : Heap} (E : Ctx w K mg) : DefOk P w K mg base "_law_mark" [("_law_sheet" : Str), ("_law_found" : Str)] 1 (sp__law_mark w K) := by
  obtain ⟨fd, F⟩ := E.D__law_mark
  exact ⟨_, fd, fn_mk (t := t__law_mark P w K) F sc__law_mark (rd__law_mark E) (fun cdv A outer s H E0 hr => (pss_cons (ps_asg (pv 0) (pg_tup rfl (pgs_cons (pg_name (i := 2) sc__law_mark.nd rfl (Or.inl rfl)) (pgs_cons (pg_name (i := 3) sc__law_mark.nd rfl (Or.inl rfl)) (pgs_cons (pg_name (i := 4) sc__law_mark.nd rfl (Or.inr rfl)) pgs_nil)))))
    (pss_cons (ps_set (i := 5) sc__law_mark.nd rfl (Or.inl rfl) (pe_lst (pa_cons (pv 2) pa_nil)))
    (pss_cons (ps_for PassesOwn.never rfl (pi_list (pv 3)) (pg_name (i := 6) sc__law_mark.nd rfl (Or.inl rfl))
    (pss_one (ps_if (pt_cmpR op_isN (pv 6) pe_non (nomark _))
    (pss_one (ps_expr (pe_bm PySem.F.plainAttrs_list PySem.F.slot_list_append PySem.F.type_list_append mt_append (pv 5) (pa_cons pe_non pa_nil))))
    (pss_one (ps_expr (pe_bm PySem.F.plainAttrs_list PySem.F.slot_list_append PySem.F.type_list_append mt_append (pv 5) (pa_cons (pe_callB (cr_sortedP2 rfl) (by rfl) E.f_sorted (by decide +kernel) (pa_cons (pe_callTy (cr_setOfT rfl hr.units) (by rfl) E.f_set (by decide +kernel) (pa_cons (pe_lc (own := [("_law_shift", 7), ("_law_target", 8)]) (wi := (iList K (tVar 6))) (g := (gTup K 2 (gCons (gName 7) (gCons (gName 8) gNil)))) (tt := tYes) (te := (tTup (tCons (tVar 7) (tCons (tOp (rIxL K) (tVar 1) (tOp rAddI (tVar 4) (tVar 8))) tNil)))) rfl sc__law_mark.nd (pi_list (pv 6)) (blkOk_by (own := [("_law_shift", 7), ("_law_target", 8)]) (N := N__law_mark) (sc := defScope s__law_mark) (by decide +kernel)) (fun _ _ _ _ _ => (pg_tup rfl (pgs_cons (pg_name (i := 7) sc__law_mark.nd rfl (Or.inl rfl)) (pgs_cons (pg_name (i := 8) sc__law_mark.nd rfl (Or.inl rfl)) pgs_nil)))) (fun _ _ _ _ _ => pts_nil) (fun _ _ _ _ _ => (pe_tup (pa_cons (pv 7) (pa_cons (pe_ix ix_list (pv 1) (pe_op op_add (pv 4) (pv 8)) (fun _ _ => rfl)) pa_nil))))) pa_nil)) pa_nil)) pa_nil)))))))
    (pss_one (ps_ret (pv 5))))))), (FunD.bindsN F (fun _ _ _ _ _ _ us hl => match us, hl with | [_, _], _ => rfl)), E.g__law_mark, F.kp⟩
end K28

set_option Elab.async false
set_option linter.all false
set_option maxRecDepth 100000
set_option maxHeartbeats 4000000
namespace K28
open PySem PySem.Spec PyProof.Rows L2
open Evl (Ex)

/-! ## the law's classes, lap by lap -/
structure Sy where
  N : Nat
  side : Nat → Int
  off : Nat → Nat
  pats : Nat → List (Option (List (Int × Nat)))
def Sy.mark (S : Sy) (fs : List Int) (i : Nat) : MarkT := markOf fs (S.side i) (S.off i) (S.pats i)
def Sy.marks (S : Sy) (fs : List Int) : List MarkT := (List.range S.N).map (S.mark fs)
def Sy.idx (S : Sy) (fs : List Int) (i : Nat) : Nat := (S.marks fs).findIdx fun x => decide (x = S.mark fs i)
def Sy.step (S : Sy) (fs : List Int) : List Int := (List.range S.N).map fun i => ((S.idx fs i : Nat) : Int)
def Sy.it (S : Sy) : Nat → List Int
  | 0 => List.replicate S.N 0
  | k + 1 => S.step (S.it k)
theorem Sy.it_len (S : Sy) : ∀ k, (S.it k).length = S.N
  | 0 => List.length_replicate
  | k + 1 => by
    show (S.step _).length = S.N
    unfold Sy.step
    rw [List.length_map, List.length_range]
theorem Sy.idx_lt (S : Sy) (fs : List Int) {i : Nat} (hi : i < S.N) : S.idx fs i < S.N := by
  have h : S.idx fs i < (S.marks fs).length := by
    unfold Sy.idx
    refine List.findIdx_lt_length_of_exists ⟨S.mark fs i, ?_, decide_eq_true rfl⟩
    unfold Sy.marks
    exact List.mem_map.mpr ⟨i, List.mem_range.mpr hi, rfl⟩
  unfold Sy.marks at h
  rw [List.length_map, List.length_range] at h
  exact h
theorem Sy.it_bd (S : Sy) (hN : S.N ≤ 60) : ∀ k, ∀ f ∈ S.it k, 0 ≤ f ∧ f < 64
  | 0, f, hf => by
    have := List.eq_of_mem_replicate hf
    omega
  | k + 1, f, hf => by
    have hf2 : f ∈ S.step (S.it k) := hf
    unfold Sy.step at hf2
    obtain ⟨i, hi, rfl⟩ := List.mem_map.mp hf2
    have := S.idx_lt (S.it k) (List.mem_range.mp hi)
    omega
/-- the classes' data -/
def mkD (m : MarkT) : PyData := .list (.int m.1 :: m.2.map PySem.W.Datum.toD)
theorem eqv_mk (a b : MarkT) : PyData.eqv (mkD a) (mkD b) = decide (a = b) := by
  unfold mkD
  simp only [PyData.eqv, PyData.eqvAll]
  rw [PySem.W.eqvAll_map]
  have e : (a.1 == b.1) = decide (a.1 = b.1) := PySem.W.beq_decide a.1 b.1
  rw [e, ← Bool.decide_and]
  exact decide_eq_decide.mpr ⟨fun z => Prod.ext z.1 z.2, fun z => by rw [z]; exact ⟨rfl, rfl⟩⟩
theorem rw_can (o : Option (List (Int × Int))) : (PySem.W.Datum.toD o : PyData).canLay0 = true := by
  cases o with
  | none => rfl
  | some l =>
    show (PyData.list (l.map PySem.W.Datum.toD)).canLay0 = true
    simp only [PyData.canLay0]
    exact canAll (fun z : Int × Int => by show (PyData.tuple [.int z.1, .int z.2]).canLay0 = true; simp [PyData.canLay0, PyData.canLayAll0]) l
theorem rw_dep (o : Option (List (Int × Int))) : (PySem.W.Datum.toD o : PyData).depth ≤ 2 := by
  cases o with
  | none => show (PyData.none).depth ≤ 2; simp [PyData.depth]
  | some l =>
    show (PyData.list (l.map PySem.W.Datum.toD)).depth ≤ 2
    simp only [PyData.depth]
    have h : PyData.depthAll (l.map PySem.W.Datum.toD) ≤ 1 := depAll (g := PySem.W.Datum.toD) (k := 1) (fun z : Int × Int => by show (PyData.tuple [.int z.1, .int z.2]).depth ≤ 1; simp [PyData.depth, PyData.depthAll]) l
    omega
theorem mk_can (m : MarkT) : (mkD m).canLay0 = true := by
  simp only [mkD, PyData.canLay0, PyData.canLayAll0, Bool.true_and]
  exact canAll rw_can m.2
theorem mk_dep (m : MarkT) : (mkD m).depth ≤ 3 := by
  simp only [mkD, PyData.depth, PyData.depthAll]
  have := depAll rw_dep m.2
  omega
theorem MarkV.dp {K : PySem.W.Frag} {S : Addr → Prop} {H : Hp} {v : V} {m : MarkT} (h : MarkV K S H v m) : Dp K H v (mkD m) := by
  obtain ⟨l, rs, rfl, _, hl, al⟩ := h
  refine .lst (Evl.sq_of hl) (.cons (.int _) (dpa_of (by rw [List.length_map]; exact al.1) fun i v d hv hd => ?_))
  rw [List.getElem?_map] at hd
  cases q : m.2[i]? with
  | none => rw [q] at hd; cases hd
  | some o =>
    rw [q] at hd
    cases hd
    have z := al.2 i v o hv q
    cases o with
    | none =>
      have e : v = .non := z
      subst e
      exact .non
    | some l =>
      obtain ⟨b, ts, rfl, _, hb, d⟩ := z
      exact .lst (Evl.sq_of hb) d.dp
theorem MarkV.kp {K : PySem.W.Frag} {S : Addr → Prop} {H H' : Hp} (e : Kp K H H') {v : V} {m : MarkT} (h : MarkV K S H v m) : MarkV K S H' v m := by
  obtain ⟨l, rs, e1, e2, e3, e4⟩ := h
  exact ⟨l, rs, e1, e2, e.l _ _ e3, e4.mono fun _ _ z => z.kp e⟩
theorem MarkV.mono {K : PySem.W.Frag} {S S' : Addr → Prop} {H : Hp} (n : ∀ a, S a → S' a) {v : V} {m : MarkT} (h : MarkV K S H v m) : MarkV K S' H v m := by
  obtain ⟨l, rs, e1, e2, e3, e4⟩ := h
  exact ⟨l, rs, e1, n _ e2, e3, e4.mono fun _ _ z => z.mono n⟩
theorem MarkV.updl {K : PySem.W.Frag} {S : Addr → Prop} {H : Hp} {D : Addr} {zs : List V} (hl : LstAt H D) (n : ∀ a, S a → a ≠ D) {v : V} {m : MarkT} (h : MarkV K S H v m) : MarkV K S (upd H D (.lst zs)) v m := by
  obtain ⟨l, rs, e1, e2, e3, e4⟩ := h
  exact ⟨l, rs, e1, e2, by rw [upd_ne (n _ e2)]; exact e3, e4.mono fun _ _ z => z.updl hl n⟩
theorem SheetL.kp {K : PySem.W.Frag} {S : Addr → Prop} {H H' : Hp} (e : Kp K H H') {v : V} {s : Int} {o : Nat} {p : List (Option (List (Int × Nat)))} (h : SheetL K S H v s o p) : SheetL K S H' v s o p := by
  obtain ⟨T, Pd, ps, e1, e2, e3, e4, e5⟩ := h
  exact ⟨T, Pd, ps, e1, e.t _ _ e2, e3, e.l _ _ e4, e5.mono fun _ _ z => LsV.kp e z⟩
structure Sy.Ok (S : Sy) : Prop where
  n0 : 1 ≤ S.N
  n : S.N ≤ 60
  w : ∀ i, (S.pats i).length ≤ 5000
  p : ∀ i, i < S.N → ∀ l, some l ∈ S.pats i → l.length ≤ 60 ∧ ∀ z ∈ l, S.off i + z.2 < S.N
/-- the result: the lap's classes, which stay or were made by the last lap -/
def ClsOf (S : Sy) (fs : List Int) : Prop := ∃ k, fs = S.it k ∧ (S.step fs = fs ∨ k = S.N + 1)
def t__law_classes_4 (P : Program) (w : World) (K : PySem.W.Frag) : TS :=
    (tSeq (tFor (iRng1 (tCons (tOp rAddI (tCB (rLenX K) (tCons (tVar 3) tNil)) (tC (.int 1))) tNil)) (gName 12)
    (tSeq (tAsg (tLc (iList K (tVar 3)) (gName 14) tYes (tFn (sp__law_mark w K) (tCons (tVar 14) (tCons (tVar 11) tNil))) [14]) (gName 13))
    (tSeq (tAsg (tLc (iList K (tVar 13)) (gName 16) tYes (tBM K "list" (rIndexD K) (tVar 13) (tCons (tVar 16) tNil)) [16]) (gName 15))
    (tSeq (tIfS (tTest (tOp (rEqD K) (tVar 15) (tVar 11)))
    tBreak
    tNext)
    (tAsg (tVar 15) (gName 11))))))
    (tRet (tVar 11)))
section
variable {P : Program} {w : World} {K : PySem.W.Frag} {mg : Str → Option Value} {base : Heap} (E : Ctx w K mg)
theorem classes_4 {sh fl : Addr} {S : Sy} {H : Hp} {Q : VK} {shs : List V} {x0 x1 x2 x4 x5 x6 x7 x8 x9 : Option V} (ok : S.Ok) (hsh : H sh = some (.lst shs)) (lsh : shs.length = S.N) (all : ∀ (i : Nat) (v : V), shs[i]? = some v → SheetL K (fun _ => True) H v (S.side i) (S.off i) (S.pats i))
    (hfl : H fl = some (.lst ((S.it 0).map V.int))) (q : ∀ H' l fs, Ex H H' → H' l = some (.lst (fs.map V.int)) → ClsOf S fs → Q (.ref l) H') :
    t__law_classes_4 P w K { nx := fun _ H' => Q .non H', rt := Q } [x0, x1, x2, some (.ref sh), x4, x5, x6, x7, x8, x9, none, some (.ref fl), none, none, none, none, none] H := by
  have n60 := ok.n
  refine ⟨_, rfl, _, _, rfl, .inl ⟨_, Evl.sq_of hsh, rfl⟩, _, 1, rfl, rfl, _, rfl, by omega, by omega, ?_⟩
  have eN : ((shs.length : Nat) : Int) + 1 = ((S.N + 1 : Nat) : Int) := by omega
  have eN2 : (((shs.length : Nat) : Int) + 1).toNat = S.N + 1 := by omega
  refine for_it (n := (((shs.length : Nat) : Int) + 1).toNat) walk_range (fun i σ H' => Ex H H' ∧ ∃ (f : Addr) (x12 x13 x15 : Option V), σ = [x0, x1, x2, some (.ref sh), x4, x5, x6, x7, x8, x9, none, some (.ref f), x12, x13, none, x15, none] ∧ H' f = some (.lst ((S.it i).map V.int))) ⟨.refl _, fl, none, none, none, rfl, hfl⟩ (fun _ _ _ _ _ => trivial) ?_ ?_
  · rintro i x σ H1 H1' hi ⟨e1, f, x12, x13, x15, rfl, hf⟩ ⟨rfl, hx⟩
    have hsh1 := e1 _ _ hsh
    have lit := S.it_len i
    -- the marks
    refine ⟨_, rfl, sh, rfl, ⟨_, Evl.sq_of hsh1⟩, fun D hD => ?_⟩
    refine lc_map noS (fun _ z => z.elim) hD (walk_list (xs := shs)) (by omega) (fun j v H' => MarkV K (fun a => a ≠ D) H' v (S.mark (S.it i) j)) (fun _ _ => True) (fun j H' e _ => Evl.sq_of (e.ex _ _ hsh1)) trivial ?_ (fun _ _ _ _ _ _ => trivial) ?_ ?_ ?_
    · exact fun j v H' zs hl e m => m.updl hl fun a ha => ha
    · exact fun j v H' H'' k hl e e2 _ _ m => m.kp (.ex e2.ex)
    · rintro j y H2 H2' kk hj hl e2 - ⟨rfl, hy⟩ k1
      have sj := (all j y hy).kp (.ex (e1.trans e2.ex))
      refine ⟨rfl, _, rfl, _, rfl, y, f, S.side j, S.off j, S.pats j, S.it i, rfl, sj, (e2.ex) _ _ hf, S.it_bd ok.n i, fun l hl => ?_, ok.w j, fun H3 m e3 mv => k1 m H3 (.of e3) (mv.mono fun a ha z => ?_) trivial⟩
      · rw [lit]
        exact ok.p j (by omega) l hl
      · obtain ⟨ws, hw⟩ := hl
        rw [z, hw] at ha
        cases ha
    · intro acc H2 e2 hl2 len2 zz _
      have alD : DpAll K H2 acc ((S.marks (S.it i)).map mkD) := dpa_of (by rw [List.length_map]; unfold Sy.marks; rw [List.length_map, List.length_range]; omega) fun j v d hv hd => by
        have hj : j < S.N := by
          have := (List.getElem?_eq_some_iff.mp hv).1
          omega
        have hm : (S.marks (S.it i))[j]? = some (S.mark (S.it i) j) := by
          unfold Sy.marks
          rw [List.getElem?_map, List.getElem?_range hj]
          rfl
        rw [List.getElem?_map, hm] at hd
        cases hd
        exact (zz j v hv).dp
      have lmk : (S.marks (S.it i)).length = S.N := by
        unfold Sy.marks
        rw [List.length_map, List.length_range]
      have shp_all : SeqAt.shaped (.list ((S.marks (S.it i)).map mkD)) = true := shp (by simp only [PyData.canLay0]; exact canAll mk_can _) (by
        simp only [PyData.depth]
        have := depAll mk_dep (S.marks (S.it i))
        omega)
      -- fresh
      refine ⟨_, rfl, D, rfl, ⟨_, Evl.sq_of hl2⟩, fun D2 hD2 => ?_⟩
      refine lc_filt hD2 (walk_list (xs := acc)) (by omega) (fun j => some (.int ((S.idx (S.it i) j : Nat) : Int))) (fun H' e => Evl.sq_of (e _ _ hl2)) ?_ ?_
      · rintro j y H3 H3' kk k0 hj e3 ⟨rfl, hy⟩ k1 k2
        have hjN : j < S.N := by omega
        have hmj : (S.marks (S.it i))[j]? = some (S.mark (S.it i) j) := by
          unfold Sy.marks
          rw [List.getElem?_map, List.getElem?_range hjN]
          rfl
        have hlt : S.idx (S.it i) j < (S.marks (S.it i)).length := by
          rw [lmk]
          exact S.idx_lt _ hjN
        have hat : (S.marks (S.it i))[S.idx (S.it i) j] = S.mark (S.it i) j := of_decide_eq_true (List.findIdx_getElem (p := fun x => decide (x = S.mark (S.it i) j)) (w := hlt))
        refine ⟨rfl, _, rfl, .inl ⟨rfl, _, Evl.sq_of (e3 _ _ hl2)⟩, _, rfl, D, y, mkD (S.mark (S.it i) j), (S.marks (S.it i)).map mkD, S.idx (S.it i) j, mkD (S.mark (S.it i) j), rfl, rfl, .lst (Evl.sq_of (e3 _ _ hl2)) (dpa_ex e3 alD), ((zz j y hy).kp (.ex e3)).dp, shp_all, shp (mk_can _) (Nat.le_trans (mk_dep _) (by decide)), ?_, ?_, fun m z hm hz => ?_, k1 _ _ rfl (.refl _)⟩
        · rw [List.getElem?_map, List.getElem?_eq_getElem hlt, hat]
          rfl
        · rw [eqv_mk]
          exact decide_eq_true rfl
        · have hm2 : m < (S.marks (S.it i)).length := by omega
          rw [List.getElem?_map, List.getElem?_eq_getElem hm2] at hz
          cases hz
          rw [eqv_mk]
          have := List.not_of_lt_findIdx (p := fun x => decide (x = S.mark (S.it i) j)) hm
          simpa using this
      · intro H3 e3 hl3
        have efr : (List.range acc.length).filterMap (fun j => some (V.int ((S.idx (S.it i) j : Nat) : Int))) = (S.step (S.it i)).map V.int := by
          unfold Sy.step
          rw [List.map_map, len2, lsh]
          exact fm_map fun _ _ => rfl
        rw [efr] at hl3
        have e13 := e2.ex.trans e3
        have isl : ∀ l : List Int, SeqAt.shaped (.list (l.map PyData.int)) = true := fun l => shp (by simp only [PyData.canLay0]; exact canAll (fun _ => by simp [PyData.canLay0]) l) (by
          simp only [PyData.depth]
          have := depAll (g := PyData.int) (k := 0) (fun _ => by simp [PyData.depth]) l
          omega)
        refine ⟨_, rfl, _, rfl, .list ((S.step (S.it i)).map PyData.int), .list ((S.it i).map PyData.int), .lst (Evl.sq_of hl3) (dpa_ints _), .lst (Evl.sq_of (e13 _ _ hf)) (dpa_ints _), isl _, isl _, _, rfl, ?_⟩
        have eqvI : PyData.eqv (.list ((S.step (S.it i)).map PyData.int)) (.list ((S.it i).map PyData.int)) = decide (S.step (S.it i) = S.it i) := by
          simp only [PyData.eqv]
          exact PySem.W.eqvAll_map (α := Int) _ _
        rw [eqvI]
        refine ite2 (fun c => ?_) fun c => ?_
        · exact ⟨_, rfl, q H3 f (S.it i) (e1.trans e13) (e13 _ _ hf) ⟨i, rfl, .inl (of_decide_eq_true c)⟩⟩
        · exact ⟨_, rfl, e1.trans e13, D2, _, _, _, rfl, hl3⟩
  · rintro σ H1 ⟨e1, f, x12, x13, x15, rfl, hf⟩
    rw [eN2] at hf
    exact ⟨_, rfl, q H1 f _ e1 hf ⟨S.N + 1, rfl, .inr rfl⟩⟩
end
end K28

set_option Elab.async false
set_option linter.all false
set_option maxRecDepth 100000
set_option maxHeartbeats 4000000
namespace K28
open PySem PySem.Spec PyProof.Rows L2
open Evl (Ex)

def winR (b : Int) (r : Nat) : List Int := (List.range ((b + (r : Nat) + 1) - (-b - (r : Nat))).toNat).map fun i => -b - (r : Nat) + (i : Nat)
def lawSy (A B : Bk) (r : Nat) : Sy where
  N := A.sides.length + B.sides.length
  side i := (A.sides ++ B.sides).getD i 0
  off i := if i < A.sides.length then 0 else A.sides.length
  pats i := (winR (wB A B) r).map fun n => if i < A.sides.length then Pat A i n else Pat B (i - A.sides.length) n
theorem pat_ok {B : Bk} (ok : B.Ok) {p : Nat} {n : Int} {l : List (Int × Nat)} (h : some l = Pat B p n) : l.length ≤ 60 ∧ ∀ z ∈ l, z.2 < B.sides.length := by
  unfold Pat at h
  by_cases g : B.goal p n = true
  · rw [if_pos g] at h
    cases h
  · rw [if_neg g] at h
    cases h
    refine ⟨by rw [List.length_map]; exact opts_len ok p n, fun z hz => ?_⟩
    obtain ⟨o, ho, rfl⟩ := List.mem_map.mp hz
    exact opts_lt ok ho
theorem winR_len {b : Int} {r : Nat} (h0 : 0 ≤ b) (h1 : b ≤ 9) (h2 : r ≤ 324) : (winR b r).length ≤ 5000 := by
  unfold winR
  rw [List.length_map, List.length_range]
  omega
theorem wB_bd {A B : Bk} (oA : A.Ok) (oB : B.Ok) : 0 ≤ wB A B ∧ wB A B ≤ 9 := by
  obtain ⟨u1, u2⟩ := bound_bd oA
  obtain ⟨v1, v2⟩ := bound_bd oB
  unfold wB
  split <;> omega
theorem lawSy_ok {A B : Bk} (oA : A.Ok) (oB : B.Ok) {r : Nat} (hr : r ≤ 324) : (lawSy A B r).Ok where
  n0 := by show 1 ≤ A.sides.length + B.sides.length; have := oA.n0; omega
  n := by show A.sides.length + B.sides.length ≤ 60; have := oA.n1; have := oB.n1; omega
  w i := by
    show ((winR (wB A B) r).map _).length ≤ 5000
    rw [List.length_map]
    exact winR_len (wB_bd oA oB).1 (wB_bd oA oB).2 hr
  p i hi l hl := by
    have hl2 : some l ∈ (winR (wB A B) r).map fun n => if i < A.sides.length then Pat A i n else Pat B (i - A.sides.length) n := hl
    obtain ⟨n, _, e⟩ := List.mem_map.mp hl2
    show l.length ≤ 60 ∧ ∀ z ∈ l, (if i < A.sides.length then 0 else A.sides.length) + z.2 < A.sides.length + B.sides.length
    by_cases c : i < A.sides.length
    · rw [if_pos c] at e ⊢
      obtain ⟨h1, h2⟩ := pat_ok oA e.symm
      exact ⟨h1, fun z hz => by have := h2 z hz; omega⟩
    · rw [if_neg c] at e ⊢
      obtain ⟨h1, h2⟩ := pat_ok oB e.symm
      exact ⟨h1, fun z hz => by have := h2 z hz; omega⟩
def ClsOk (A B : Bk) (fs : List Int) : Prop := ∃ r : Nat, A.rests ∣ r ∧ B.rests ∣ r ∧ 1 ≤ r ∧ ClsOf (lawSy A B r) fs
def sp__law_classes (w : World) (K : PySem.W.Frag) : Sp := fun vs H Q _ => ∃ (a b : V) (A B : Bk), vs = [a, b] ∧ LwB K H a A ∧ LwB K H b B ∧ A.Ok ∧ B.Ok ∧ ∀ H' l fs, Ex H H' → H' l = some (.lst (fs.map V.int)) → ClsOk A B fs → fs.length = A.sides.length + B.sides.length → Q (.ref l) H'
def N__law_classes : List Str := ["_law_one", "_law_other", "_law_bound_here", "_law_sheets", "_law_rests", "_law_book", "_law_by", "_law_place", "_law_side", "_law_patterns", "_law_n", "_law_found", "_law_lap", "_law_marks", "_law_sheet", "_law_fresh", "_law_mark_here"]
theorem sc__law_classes : FnScope N__law_classes ["_law_one", "_law_other"] (defScope s__law_classes) := ⟨rfl, rfl, rfl, by decide +kernel, rfl, by decide +kernel, by decide +kernel⟩
/-- names: 0 _law_one 1 _law_other 2 _law_bound_here 3 _law_sheets 4 _law_rests 5 _law_book* 6 _law_by 7 _law_place* 8 _law_side 9 _law_patterns 10 _law_n 11 _law_found* 12 _law_lap 13 _law_marks* 14 _law_sheet 15 _law_fresh 16 _law_mark_here -/
def t__law_classes (P : Program) (w : World) (K : PySem.W.Frag) : TS :=
    (tSeq (tPar 2 3 (tCons (tCB (rMax K) (tCons (tLst (tCons (tFn (sp__law_bound w K) (tCons (tVar 0) tNil)) (tCons (tFn (sp__law_bound w K) (tCons (tVar 1) tNil)) tNil))) tNil)) (tCons (tLst tNil) tNil)))
    (tSeq (tAsg (tFn (sp__law_common w K) (tCons (tFn (sp__law_width w K) (tCons (tVar 0) tNil)) (tCons (tFn (sp__law_width w K) (tCons (tVar 1) tNil)) tNil))) (gName 4))
    (tSeq (tFor (iList K (tLst (tCons (tTup (tCons (tVar 0) (tCons (tC (.int 0)) tNil))) (tCons (tTup (tCons (tVar 1) (tCons (tCB (rLenX K) (tCons (tDGet (tVar 0) (tC (.str "sides"))) tNil)) tNil))) tNil)))) (gTup K 2 (gCons (gName 5) (gCons (gName 6) gNil)))
    (tFor (iEnumS K (tCons (tDGet (tVar 5) (tC (.str "sides"))) tNil)) (gTup K 2 (gCons (gName 7) (gCons (gName 8) gNil)))
    (tSeq (tAsg (tLc (iRng2 (tCons (tOp rSubI (tUn rNegI (tVar 2)) (tVar 4)) (tCons (tOp rAddI (tOp rAddI (tVar 2) (tVar 4)) (tC (.int 1))) tNil))) (gName 10) tYes (tFn (sp__law_pattern w K) (tCons (tVar 5) (tCons (tVar 7) (tCons (tVar 10) tNil)))) [10]) (gName 9))
    (tDrop (tBM K "list" rAppend (tVar 3) (tCons (tTup (tCons (tVar 8) (tCons (tVar 9) (tCons (tVar 6) tNil)))) tNil))))))
    (tSeq (tAsg (tOp rRep (tLst (tCons (tC (.int 0)) tNil)) (tCB (rLenX K) (tCons (tVar 3) tNil))) (gName 11))
    (tSeq (tFor (iRng1 (tCons (tOp rAddI (tCB (rLenX K) (tCons (tVar 3) tNil)) (tC (.int 1))) tNil)) (gName 12)
    (tSeq (tAsg (tLc (iList K (tVar 3)) (gName 14) tYes (tFn (sp__law_mark w K) (tCons (tVar 14) (tCons (tVar 11) tNil))) [14]) (gName 13))
    (tSeq (tAsg (tLc (iList K (tVar 13)) (gName 16) tYes (tBM K "list" (rIndexD K) (tVar 13) (tCons (tVar 16) tNil)) [16]) (gName 15))
    (tSeq (tIfS (tTest (tOp (rEqD K) (tVar 15) (tVar 11)))
    tBreak
    tNext)
    (tAsg (tVar 15) (gName 11))))))
    (tRet (tVar 11)))))))
def t__law_classes_2 (P : Program) (w : World) (K : PySem.W.Frag) : TS :=
    (tSeq (tFor (iList K (tLst (tCons (tTup (tCons (tVar 0) (tCons (tC (.int 0)) tNil))) (tCons (tTup (tCons (tVar 1) (tCons (tCB (rLenX K) (tCons (tDGet (tVar 0) (tC (.str "sides"))) tNil)) tNil))) tNil)))) (gTup K 2 (gCons (gName 5) (gCons (gName 6) gNil)))
    (tFor (iEnumS K (tCons (tDGet (tVar 5) (tC (.str "sides"))) tNil)) (gTup K 2 (gCons (gName 7) (gCons (gName 8) gNil)))
    (tSeq (tAsg (tLc (iRng2 (tCons (tOp rSubI (tUn rNegI (tVar 2)) (tVar 4)) (tCons (tOp rAddI (tOp rAddI (tVar 2) (tVar 4)) (tC (.int 1))) tNil))) (gName 10) tYes (tFn (sp__law_pattern w K) (tCons (tVar 5) (tCons (tVar 7) (tCons (tVar 10) tNil)))) [10]) (gName 9))
    (tDrop (tBM K "list" rAppend (tVar 3) (tCons (tTup (tCons (tVar 8) (tCons (tVar 9) (tCons (tVar 6) tNil)))) tNil))))))
    (tSeq (tAsg (tOp rRep (tLst (tCons (tC (.int 0)) tNil)) (tCB (rLenX K) (tCons (tVar 3) tNil))) (gName 11))
    (tSeq (tFor (iRng1 (tCons (tOp rAddI (tCB (rLenX K) (tCons (tVar 3) tNil)) (tC (.int 1))) tNil)) (gName 12)
    (tSeq (tAsg (tLc (iList K (tVar 3)) (gName 14) tYes (tFn (sp__law_mark w K) (tCons (tVar 14) (tCons (tVar 11) tNil))) [14]) (gName 13))
    (tSeq (tAsg (tLc (iList K (tVar 13)) (gName 16) tYes (tBM K "list" (rIndexD K) (tVar 13) (tCons (tVar 16) tNil)) [16]) (gName 15))
    (tSeq (tIfS (tTest (tOp (rEqD K) (tVar 15) (tVar 11)))
    tBreak
    tNext)
    (tAsg (tVar 15) (gName 11))))))
    (tRet (tVar 11)))))
def t__law_classes_3 (P : Program) (w : World) (K : PySem.W.Frag) : TS :=
    (tSeq (tAsg (tOp rRep (tLst (tCons (tC (.int 0)) tNil)) (tCB (rLenX K) (tCons (tVar 3) tNil))) (gName 11))
    (tSeq (tFor (iRng1 (tCons (tOp rAddI (tCB (rLenX K) (tCons (tVar 3) tNil)) (tC (.int 1))) tNil)) (gName 12)
    (tSeq (tAsg (tLc (iList K (tVar 3)) (gName 14) tYes (tFn (sp__law_mark w K) (tCons (tVar 14) (tCons (tVar 11) tNil))) [14]) (gName 13))
    (tSeq (tAsg (tLc (iList K (tVar 13)) (gName 16) tYes (tBM K "list" (rIndexD K) (tVar 13) (tCons (tVar 16) tNil)) [16]) (gName 15))
    (tSeq (tIfS (tTest (tOp (rEqD K) (tVar 15) (tVar 11)))
    tBreak
    tNext)
    (tAsg (tVar 15) (gName 11))))))
    (tRet (tVar 11))))
theorem SheetL.updl {K : PySem.W.Frag} {S : Addr → Prop} {H : Hp} {D : Addr} {zs : List V} (hl : LstAt H D) (n : ∀ a, S a → a ≠ D) {v : V} {s : Int} {o : Nat} {p : List (Option (List (Int × Nat)))} (h : SheetL K S H v s o p) : SheetL K S (upd H D (.lst zs)) v s o p := by
  obtain ⟨T, Pd, ps, e1, e2, e3, e4, e5⟩ := h
  exact ⟨T, Pd, ps, e1, TupK.lst hl _ _ e2, e3, by rw [upd_ne (n _ e3)]; exact e4, e5.mono fun _ _ z => LsV.updl hl n z⟩
theorem SheetL.mono {K : PySem.W.Frag} {S S' : Addr → Prop} {H : Hp} (n : ∀ a, S a → S' a) {v : V} {s : Int} {o : Nat} {p : List (Option (List (Int × Nat)))} (h : SheetL K S H v s o p) : SheetL K S' H v s o p := by
  obtain ⟨T, Pd, ps, e1, e2, e3, e4, e5⟩ := h
  exact ⟨T, Pd, ps, e1, e2, n _ e3, e4, e5.mono fun _ _ z => LsV.mono n z⟩
section
variable {P : Program} {w : World} {K : PySem.W.Frag} {mg : Str → Option Value}
theorem classes_3 {sh : Addr} {S : Sy} {H : Hp} {Q : VK} {shs : List V} {x0 x1 x2 x4 x5 x6 x7 x8 x9 : Option V} (ok : S.Ok) (hsh : H sh = some (.lst shs)) (lsh : shs.length = S.N) (all : ∀ (i : Nat) (v : V), shs[i]? = some v → SheetL K (fun _ => True) H v (S.side i) (S.off i) (S.pats i))
    (q : ∀ H' l fs, Ex H H' → H' l = some (.lst (fs.map V.int)) → ClsOf S fs → Q (.ref l) H') :
    t__law_classes_3 P w K { nx := fun _ H' => Q .non H', rt := Q } [x0, x1, x2, some (.ref sh), x4, x5, x6, x7, x8, x9, none, none, none, none, none, none, none] H := by
  have n60 := ok.n
  refine ⟨(by show 1 ≤ sizeLine; decide), fun L hL => ?_⟩
  have eL := Ex.new (o := .lst [.int 0]) hL
  refine ⟨_, rfl, _, _, rfl, .inl ⟨_, Evl.sq_of (eL _ _ hsh), rfl⟩, L, _, [.int 0], rfl, rfl, upd_same, by omega, by omega, Evl.sz_of (by rw [List.length_singleton]; omega), fun fl hfl => ?_⟩
  have ef := Ex.new (o := .lst (List.replicate ((shs.length : Nat) : Int).toNat [V.int 0]).flatten) hfl
  have e2 := eL.trans ef
  refine classes_4 (P := P) ok (e2 _ _ hsh) lsh (fun i v hv => (all i v hv).kp (.ex e2)) ?_ fun H' l fs e hl c => q H' l fs (e2.trans e) hl c
  rw [upd_same]
  have e : (List.replicate ((shs.length : Nat) : Int).toNat [V.int 0]).flatten = (S.it 0).map V.int := by
    show _ = (List.replicate S.N 0).map V.int
    rw [List.map_replicate, Int.toNat_natCast, lsh]
    generalize S.N = n
    induction n with
    | zero => rfl
    | succ n ih => rw [List.replicate_succ, List.flatten_cons, ih, List.replicate_succ]; rfl
  rw [e]
theorem classes_2 {sh oa ob : Addr} {r : Nat} {A B : Bk} {H0 H : Hp} {Q : VK} {sa ma ga sb mb gb : Addr} {amss agss bmss bgss : List V} (e0 : Ex H0 H) (lwA : LwAt K H0 oa sa ma ga amss agss A) (lwB : LwAt K H0 ob sb mb gb bmss bgss B) (oA : A.Ok) (oB : B.Ok) (hr1 : 1 ≤ r) (hr : r ≤ 324)
    (hsh0 : H0 sh = none) (hsh : H sh = some (.lst [])) (q : ∀ H' l fs, Ex H0 H' → H' l = some (.lst (fs.map V.int)) → ClsOf (lawSy A B r) fs → Q (.ref l) H') :
    t__law_classes_2 P w K { nx := fun _ H' => Q .non H', rt := Q } [some (.ref oa), some (.ref ob), some (.int (wB A B)), some (.ref sh), some (.int r), none, none, none, none, none, none, none, none, none, none, none, none] H := by
  have okS := lawSy_ok oA oB hr
  obtain ⟨wb0, wb9⟩ := wB_bd oA oB
  have nA7 := oA.n1
  have nB7 := oB.n1
  refine ⟨_, rfl, (by show 2 ≤ sizeLine; decide), fun T1 hT1 => ⟨_, rfl, ?_⟩⟩
  have f1 := Ex.new (o := .tup [.ref oa, .int 0]) hT1
  refine ⟨_, rfl, oa, _, rfl, (lwA.ex (e0.trans f1)).gs, _, _, rfl, .inl ⟨_, Evl.sq_of (lwA.ex (e0.trans f1)).s, rfl⟩, (by show 2 ≤ sizeLine; decide), fun T2 hT2 => ⟨(by show 2 ≤ sizeLine; decide), fun L hL => ?_⟩⟩
  rw [List.length_map] at *
  have f2 := Ex.new (o := .tup [.ref ob, .int (A.sides.length : Nat)]) hT2
  have f3 := Ex.new (o := .lst [.ref T1, .ref T2]) hL
  have f123 := (f1.trans f2).trans f3
  generalize hHb : upd (upd (upd H T1 _) T2 _) L _ = Hb
  have eb : Ex H Hb := by rw [← hHb]; exact f123
  have hshb : Hb sh = some (.lst []) := eb _ _ hsh
  have hLb : Hb L = some (.lst [.ref T1, .ref T2]) := by rw [← hHb]; exact upd_same
  have t1b : Hb T1 = some (.tup [.ref oa, .int 0]) := by rw [← hHb]; exact f3 _ _ (f2 _ _ upd_same)
  have t2b : Hb T2 = some (.tup [.ref ob, .int (A.sides.length : Nat)]) := by rw [← hHb]; exact f3 _ _ upd_same
  have nL : L ≠ sh := fun z => by
    have h := (f1.trans f2) _ _ hsh
    rw [← z, hL] at h
    cases h
  let cN : Nat → Nat := fun i => if i = 0 then 0 else if i = 1 then A.sides.length else A.sides.length + B.sides.length
  let Inv : Nat → Hp → Prop := fun cnt H' => Ex H0 H' ∧ Frm (· = sh) Hb H' ∧ ∃ shs, H' sh = some (.lst shs) ∧ shs.length = cnt ∧ ∀ (i : Nat) (v : V), shs[i]? = some v → SheetL K (fun a => a ≠ sh) H' v ((lawSy A B r).side i) ((lawSy A B r).off i) ((lawSy A B r).pats i)
  refine ⟨L, rfl, ⟨_, Evl.sq_of hLb⟩, ?_⟩
  refine for_it (walk_list (xs := [.ref T1, .ref T2])) (fun i σ H' => (∃ x5 x6 x7 x8 x9, σ = [some (.ref oa), some (.ref ob), some (.int (wB A B)), some (.ref sh), some (.int r), x5, x6, x7, x8, x9, none, none, none, none, none, none, none]) ∧ Inv (cN i) H') ⟨⟨none, none, none, none, none, rfl⟩, e0.trans eb, .refl _ _, [], hshb, rfl, fun i v z => by simp at z⟩ (fun i σ H' _ z => Evl.sq_of (z.2.2.1 _ _ nL hLb)) ?_ ?_
  · rintro i x σ H1 H1' hi ⟨⟨x5, x6, x7, x8, x9, rfl⟩, iv⟩ ⟨rfl, hx⟩
    -- which book
    obtain ⟨O, od, so, mo, go, mss, gss, T, rfl, hT, lwO, oO, nx, nO, side, offs, pats⟩ : ∃ (O : Bk) (od so mo go : Addr) (mss gss : List V) (T : Addr), x = .ref T ∧ Hb T = some (.tup [.ref od, .int (cN i : Nat)]) ∧ LwAt K H0 od so mo go mss gss O ∧ O.Ok ∧ cN (i + 1) = cN i + O.sides.length ∧ O.sides.length ≤ 7 ∧
        (∀ p, p < O.sides.length → (lawSy A B r).side (cN i + p) = O.sides.getD p 0) ∧ (∀ p, p < O.sides.length → (lawSy A B r).off (cN i + p) = cN i) ∧ (∀ p, p < O.sides.length → (lawSy A B r).pats (cN i + p) = (winR (wB A B) r).map fun n => Pat O p n) := by
      have hi2 : i < 2 := hi
      have : i = 0 ∨ i = 1 := by omega
      rcases this with rfl | rfl
      · cases hx
        refine ⟨A, oa, sa, ma, ga, amss, agss, T1, rfl, t1b, lwA, oA, (by show A.sides.length = 0 + A.sides.length; omega), nA7, fun p hp => ?_, fun p hp => ?_, fun p hp => ?_⟩
        · show (A.sides ++ B.sides).getD (0 + p) 0 = _
          rw [Nat.zero_add, List.getD_eq_getElem?_getD, List.getElem?_append_left hp, ← List.getD_eq_getElem?_getD]
        · show (if 0 + p < A.sides.length then 0 else A.sides.length) = 0
          rw [if_pos (by omega)]
        · show ((winR (wB A B) r).map fun n => if 0 + p < A.sides.length then Pat A (0 + p) n else Pat B (0 + p - A.sides.length) n) = _
          refine List.map_congr_left fun n _ => ?_
          rw [if_pos (by omega), Nat.zero_add]
      · cases hx
        refine ⟨B, ob, sb, mb, gb, bmss, bgss, T2, rfl, t2b, lwB, oB, rfl, nB7, fun p hp => ?_, fun p hp => ?_, fun p hp => ?_⟩
        · show (A.sides ++ B.sides).getD (A.sides.length + p) 0 = _
          rw [List.getD_eq_getElem?_getD, List.getElem?_append_right (by omega), Nat.add_sub_cancel_left, ← List.getD_eq_getElem?_getD]
        · show (if A.sides.length + p < A.sides.length then 0 else A.sides.length) = A.sides.length
          rw [if_neg (by omega)]
        · show ((winR (wB A B) r).map fun n => if A.sides.length + p < A.sides.length then Pat A (A.sides.length + p) n else Pat B (A.sides.length + p - A.sides.length) n) = _
          refine List.map_congr_left fun n _ => ?_
          rw [if_neg (by omega), Nat.add_sub_cancel_left]
    have hTs : ∀ {H' : Hp}, Frm (· = sh) Hb H' → H' T = some (.tup [.ref od, .int (cN i : Nat)]) := fun f => f _ _ (ne_of hT hshb (by intro z; cases z)) hT
    refine ⟨T, _, rfl, Evl.st_of (hTs iv.2.1), rfl, _, _, rfl, _, _, rfl, rfl, ?_⟩
    have lwO1 := lwO.ex iv.1
    refine ⟨_, rfl, od, _, rfl, lwO1.gs, so, _, rfl, .inl (Evl.sq_of lwO1.s), fun J G W hG => ?_⟩
    refine for_it W (fun p σ H' => (∃ x7 x8 x9, σ = [some (.ref oa), some (.ref ob), some (.int (wB A B)), some (.ref sh), some (.int r), some (.ref od), some (.int (cN i : Nat)), x7, x8, x9, none, none, none, none, none, none, none]) ∧ Inv (cN i + p) H') ⟨⟨_, _, _, rfl⟩, iv⟩ (fun p σ H' _ z => hG _ (.lst lwO1.s (lwO.ex z.2.1).s)) ?_ ?_
    · rintro p y σ H2 H2' hp ⟨⟨x7, x8, x9, rfl⟩, ⟨ex2, fr2, shs, hs2, ls2, ok2⟩⟩ ⟨T3, y1, y2, rfl, hT3, rfl, q1, q2⟩
      rw [List.length_map] at hp
      have q3 : (O.sides.map V.int)[p]? = some y2 := q2
      rw [List.getElem?_map, List.getElem?_eq_getElem hp] at q3
      cases q1
      cases q3
      have sdp := side p hp
      rw [List.getD_eq_getElem?_getD, List.getElem?_eq_getElem hp] at sdp
      have sdp2 : (lawSy A B r).side (cN i + p) = O.sides[p] := sdp
      generalize O.sides[p] = sd at sdp2
      have e3 := Ex.new (o := .tup [.int (p : Nat), .int sd]) hT3
      refine ⟨T3, _, rfl, Evl.st_of upd_same, rfl, _, _, rfl, _, _, rfl, rfl, ?_⟩
      -- the patterns
      refine ⟨_, rfl, wB A B, rfl, _, rfl, _, (r : Nat), rfl, rfl, _, rfl, _, rfl, _, (r : Nat), rfl, rfl, _, 1, rfl, rfl, _, _, rfl, ⟨by omega, by omega, by omega, by omega⟩, fun D hD => ?_⟩
      have nDsh : D ≠ sh := fun z => by
        have h := e3 _ _ hs2
        rw [← z, hD] at h
        cases h
      have wl : (winR (wB A B) r).length ≤ 5000 := winR_len wb0 wb9 hr
      have wl2 : (winR (wB A B) r).length = ((wB A B + (r : Nat) + 1) - (-wB A B - (r : Nat))).toNat := by
        unfold winR
        rw [List.length_map, List.length_range]
      refine lc_map noS (fun _ z => z.elim) hD (walk_range (lo := -wB A B - (r : Nat)) (n := ((wB A B + (r : Nat) + 1) - (-wB A B - (r : Nat))).toNat)) (by omega) (fun k v H' => ∃ n, (winR (wB A B) r)[k]? = some n ∧ PatV K (fun a => a ≠ sh ∧ a ≠ D) H' v (Pat O p n)) (fun _ _ => True) (fun _ _ _ _ => trivial) trivial ?_ (fun _ _ _ _ _ _ => trivial) ?_ ?_ ?_
      · exact fun k v H' zs hl e ⟨n, z1, z2⟩ => ⟨n, z1, LsV.updl hl (fun a ha => ha.2) z2⟩
      · exact fun k v H' H'' j hl e e2 _ _ ⟨n, z1, z2⟩ => ⟨n, z1, LsV.kp (.ex e2.ex) z2⟩
      · rintro k y H4 H4' kk hk hl e4 - ⟨rfl, hy⟩ k1
        have hy2 : y = .int (-wB A B - (r : Nat) + (k : Nat)) := hy
        subst hy2
        have hwk : (winR (wB A B) r)[k]? = some (-wB A B - (r : Nat) + (k : Nat)) := by
          unfold winR
          rw [List.getElem?_map, List.getElem?_range hk]
          rfl
        refine ⟨rfl, _, rfl, _, rfl, _, rfl, .ref od, O, p, _, rfl, ⟨od, so, mo, go, mss, gss, rfl, lwO.ex ((ex2.trans e3).trans e4.ex)⟩, oO, fun H5 x e5 pv => k1 x H5 (.of e5) ⟨_, hwk, LsV.mono (fun a ha => ⟨fun z => ?_, fun z => ?_⟩) pv⟩ trivial⟩
        · have h := (e3.trans e4.ex) _ _ hs2
          rw [← z, ha] at h
          cases h
        · obtain ⟨ws, hw⟩ := hl
          rw [z, hw] at ha
          cases ha
      · intro acc H4 e4 hl4 len4 zz _
        have e34 := e3.trans e4.ex
        have hs4 := e34 _ _ hs2
        refine ⟨_, rfl, .inl ⟨rfl, _, Evl.sq_of hs4⟩, _, rfl, _, rfl, _, rfl, (by show 3 ≤ sizeLine; decide), fun T4 hT4 => ?_⟩
        have e5 := Ex.new (o := .tup [.int sd, .ref D, .int (cN i : Nat)]) hT4
        have hs5 := e5 _ _ hs4
        have cN14 : cN i ≤ 14 := by
          show (if i = 0 then 0 else if i = 1 then A.sides.length else A.sides.length + B.sides.length) ≤ 14
          split
          · omega
          · split <;> omega
        refine ⟨sh, shs, _, rfl, rfl, hs5, Evl.sz_lt (by omega), ⟨_, _, _, rfl⟩, (ex2.trans (e34.trans e5)).mut hsh0, ?_, shs ++ [.ref T4], upd_same, by rw [List.length_append, ls2]; rfl, fun j v hv => ?_⟩
        · intro b o hb h
          rw [upd_ne hb]
          exact (e34.trans e5) _ _ (fr2 b o hb h)
        · by_cases hj : j < shs.length
          · rw [List.getElem?_append_left hj] at hv
            exact ((ok2 j v hv).kp (.ex (e34.trans e5))).updl ⟨_, hs5⟩ fun a ha => ha
          · have hj2 : j = shs.length := by
              have := (List.getElem?_eq_some_iff.mp hv).1
              rw [List.length_append, List.length_singleton] at this
              omega
            subst hj2
            rw [List.getElem?_concat_length] at hv
            cases hv
            rw [ls2, sdp2, offs p hp, pats p hp]
            refine SheetL.updl ⟨_, hs5⟩ (fun a ha => ha) ⟨T4, D, acc, rfl, Evl.st_of upd_same, nDsh, e5 _ _ hl4, ⟨by rw [len4, List.length_map, wl2], fun k v o hv ho => ?_⟩⟩
            obtain ⟨n, z1, z2⟩ := zz k v hv
            rw [List.getElem?_map, z1] at ho
            cases ho
            exact LsV.mono (fun a ha => ha.1) (LsV.kp (.ex e5) z2)
    · rintro σ H2 ⟨⟨x7, x8, x9, rfl⟩, iv2⟩
      rw [List.length_map] at iv2
      refine ⟨⟨_, _, _, _, _, rfl⟩, ?_⟩
      rw [nx]
      exact iv2
  · rintro σ H1 ⟨⟨x5, x6, x7, x8, x9, rfl⟩, ex1, fr1, shs, hs1, ls1, ok1⟩
    exact classes_3 (P := P) okS hs1 ls1 (fun i v hv => (ok1 i v hv).mono fun _ _ => trivial) fun H' l fs e hl c => q H' l fs (ex1.trans e) hl c
end
end K28

set_option Elab.async false
set_option linter.all false
set_option maxRecDepth 100000
set_option maxHeartbeats 4000000
namespace K28
open PySem PySem.Spec PyProof.Rows L2
open Evl (Ex)

section
variable {P : Program} {w : World} {K : PySem.W.Frag} {mg : Str → Option Value} (E : Ctx w K mg)
include E
theorem rd__law_classes (vs : List V) (H : Hp) (Q : VK) (E0 : XK) (h : sp__law_classes w K vs H Q E0) : vs.length = 2 ∧ t__law_classes P w K { nx := fun _ H' => Q .non H', rt := Q } (start N__law_classes vs) H := by
  obtain ⟨a, b, A, B, rfl, ⟨oa, sa, ma, ga, amss, agss, rfl, lwA⟩, ⟨ob, sb, mb, gb, bmss, bgss, rfl, lwB⟩, oA, oB, q⟩ := h
  have LA : LwB K H (.ref oa) A := ⟨oa, sa, ma, ga, amss, agss, rfl, lwA⟩
  have LB : LwB K H (.ref ob) B := ⟨ob, sb, mb, gb, bmss, bgss, rfl, lwB⟩
  refine ⟨rfl, _, rfl, .ref oa, A, rfl, LA, oA, fun H1 e1 => ⟨_, rfl, .ref ob, B, rfl, LB.ex e1, oB, fun H2 e2 => ⟨(by show 2 ≤ sizeLine; decide), fun L hL => ?_⟩⟩⟩
  have eL := Ex.new (o := .lst [.int A.bound, .int B.bound]) hL
  refine ⟨L, [A.bound, B.bound], rfl, Evl.sq_of upd_same, by simp, fun m hm hall => ⟨(by show 0 ≤ sizeLine; decide), fun sh hsh => ⟨_, _, rfl, ?_⟩⟩⟩
  have em : m = wB A B := by
    have h1 := hall A.bound (by simp)
    have h2 := hall B.bound (by simp)
    simp only [List.mem_cons, List.not_mem_nil, or_false] at hm
    unfold wB
    split <;> omega
  subst em
  have es := Ex.new (o := .lst []) hsh
  have eA := ((e1.trans e2).trans eL).trans es
  refine ⟨_, rfl, .ref oa, A, rfl, LA.ex eA, oA, fun H3 d1 e3 v1 c1 u1 => ⟨_, rfl, .ref ob, B, rfl, LB.ex (eA.trans e3), oB, fun H4 d2 e4 v2 c2 u2 => ⟨d1, d2, rfl, c1, by omega, c2, by omega, fun H5 e5 => ?_⟩⟩⟩
  have lpos : 1 ≤ Nat.lcm d1 d2 := Nat.lcm_pos c1 c2
  have lle : Nat.lcm d1 d2 ≤ 324 := by
    have h1 : Nat.lcm d1 d2 ∣ d1 * d2 := Nat.lcm_dvd (Nat.dvd_mul_right d1 d2) (Nat.dvd_mul_left d2 d1)
    have h2 := Nat.le_of_dvd (Nat.mul_pos c1 c2) h1
    have h3 : d1 * d2 ≤ 18 * 18 := Nat.mul_le_mul u1 u2
    omega
  have e345 := (e3.trans e4).trans e5
  have hsh0 : H sh = none := Evl.fresh_back ((e1.trans e2).trans eL) hsh
  refine classes_2 (P := P) (eA.trans e345) lwA lwB oA oB lpos lle hsh0 (e345 _ _ upd_same) fun H' l fs e hl c => q H' l fs e hl ⟨_, Nat.dvd_trans v1 (Nat.dvd_lcm_left _ _), Nat.dvd_trans v2 (Nat.dvd_lcm_right _ _), lpos, c⟩ ?_
  obtain ⟨k, rfl, _⟩ := c
  exact Sy.it_len _ k
end
theorem ok__law_classes {P : Program} {w : World} {K : PySem.W.Frag} {mg : Str → Option Value} {base : Heap} (E : Ctx w K mg) : DefOk P w K mg base "_law_classes" [("_law_one" : Str), ("_law_other" : Str)] 4 (sp__law_classes w K) := by
  obtain ⟨fd, F⟩ := E.D__law_classes
  exact ⟨_, fd, fn_mk (t := t__law_classes P w K) F sc__law_classes (rd__law_classes E) (fun cdv A outer s H E0 hr => (pss_cons (ps_par (i := 2) (j := 3) rfl sc__law_classes.nd rfl rfl (by decide) rfl rfl (pa_cons (pe_callB (cr_max rfl) (by rfl) E.f_max (by decide +kernel) (pa_cons (pe_lst (pa_cons (pe_fn (ok__law_bound E) (hr.mono (by decide)) (by rfl) (pa_cons (pv 0) pa_nil)) (pa_cons (pe_fn (ok__law_bound E) (hr.mono (by decide)) (by rfl) (pa_cons (pv 1) pa_nil)) pa_nil))) pa_nil)) (pa_cons (pe_lst pa_nil) pa_nil)) rfl)
    (pss_cons (ps_set (i := 4) sc__law_classes.nd rfl (Or.inl rfl) (pe_fn (ok__law_common E) (hr.mono (by decide)) (by rfl) (pa_cons (pe_fn (ok__law_width E) (hr.mono (by decide)) (by rfl) (pa_cons (pv 0) pa_nil)) (pa_cons (pe_fn (ok__law_width E) (hr.mono (by decide)) (by rfl) (pa_cons (pv 1) pa_nil)) pa_nil))))
    (pss_cons (ps_for PassesOwn.never rfl (pi_list (pe_lst (pa_cons (pe_tup (pa_cons (pv 0) (pa_cons pe_int pa_nil))) (pa_cons (pe_tup (pa_cons (pv 1) (pa_cons (pe_callB call_len (by rfl) E.f_len (by decide +kernel) (pa_cons (pe_dget (hu_of hr) (pv 0) pe_str (fun _ _ => rfl)) pa_nil)) pa_nil))) pa_nil)))) (pg_tup rfl (pgs_cons (pg_name (i := 5) sc__law_classes.nd rfl (Or.inr rfl)) (pgs_cons (pg_name (i := 6) sc__law_classes.nd rfl (Or.inl rfl)) pgs_nil)))
    (pss_one (ps_for PassesOwn.never rfl (pi_enumS (by rfl) E.f_enumerate (pa_cons (pe_dget (hu_of hr) (pv 5) pe_str (fun _ _ => rfl)) pa_nil)) (pg_tup rfl (pgs_cons (pg_name (i := 7) sc__law_classes.nd rfl (Or.inr rfl)) (pgs_cons (pg_name (i := 8) sc__law_classes.nd rfl (Or.inl rfl)) pgs_nil)))
    (pss_cons (ps_setLc (i := 9) (own := [("_law_n", 10)]) (wi := (iRng2 (tCons (tOp rSubI (tUn rNegI (tVar 2)) (tVar 4)) (tCons (tOp rAddI (tOp rAddI (tVar 2) (tVar 4)) (tC (.int 1))) tNil)))) (g := (gName 10)) (tt := tYes) (te := (tFn (sp__law_pattern w K) (tCons (tVar 5) (tCons (tVar 7) (tCons (tVar 10) tNil))))) rfl sc__law_classes.nd rfl rfl (sw_true rfl rfl rfl (by decide +kernel)) (pi_range2 (by rfl) E.f_range (pa_cons (pe_op op_sub (pe_un un_neg (pv 2)) (pv 4)) (pa_cons (pe_op op_add (pe_op op_add (pv 2) (pv 4)) pe_int) pa_nil))) (blkOk_by (own := [("_law_n", 10)]) (N := N__law_classes) (sc := defScope s__law_classes) (by decide +kernel)) (fun _ _ _ _ _ => (pg_name (i := 10) sc__law_classes.nd rfl (Or.inl rfl))) (fun _ _ _ _ _ => pts_nil) (fun _ _ _ _ _ => (pe_fn (ok__law_pattern E) (hr.mono (by decide)) (by rfl) (pa_cons (pv 5) (pa_cons (pv 7) (pa_cons (pv 10) pa_nil))))))
    (pss_one (ps_expr (pe_bm PySem.F.plainAttrs_list PySem.F.slot_list_append PySem.F.type_list_append mt_append (pv 3) (pa_cons (pe_tup (pa_cons (pv 8) (pa_cons (pv 9) (pa_cons (pv 6) pa_nil)))) pa_nil))))))))
    (pss_cons (ps_set (i := 11) sc__law_classes.nd rfl (Or.inr rfl) (pe_op op_rep (pe_lst (pa_cons pe_int pa_nil)) (pe_callB call_len (by rfl) E.f_len (by decide +kernel) (pa_cons (pv 3) pa_nil))))
    (pss_cons (ps_for PassesOwn.never rfl (pi_range1 (by rfl) E.f_range (pa_cons (pe_op op_add (pe_callB call_len (by rfl) E.f_len (by decide +kernel) (pa_cons (pv 3) pa_nil)) pe_int) pa_nil)) (pg_name (i := 12) sc__law_classes.nd rfl (Or.inl rfl))
    (pss_cons (ps_set (i := 13) sc__law_classes.nd rfl (Or.inr rfl) (pe_lc (own := [("_law_sheet", 14)]) (wi := (iList K (tVar 3))) (g := (gName 14)) (tt := tYes) (te := (tFn (sp__law_mark w K) (tCons (tVar 14) (tCons (tVar 11) tNil)))) rfl sc__law_classes.nd (pi_list (pv 3)) (blkOk_by (own := [("_law_sheet", 14)]) (N := N__law_classes) (sc := defScope s__law_classes) (by decide +kernel)) (fun _ _ _ _ _ => (pg_name (i := 14) sc__law_classes.nd rfl (Or.inl rfl))) (fun _ _ _ _ _ => pts_nil) (fun _ _ _ _ _ => (pe_fn (ok__law_mark E) (hr.mono (by decide)) (by rfl) (pa_cons (pv 14) (pa_cons (pv 11) pa_nil))))))
    (pss_cons (ps_setLc (i := 15) (own := [("_law_mark_here", 16)]) (wi := (iList K (tVar 13))) (g := (gName 16)) (tt := tYes) (te := (tBM K "list" (rIndexD K) (tVar 13) (tCons (tVar 16) tNil))) rfl sc__law_classes.nd rfl rfl (sw_true rfl rfl rfl (by decide +kernel)) (pi_list (pv 13)) (blkOk_by (own := [("_law_mark_here", 16)]) (N := N__law_classes) (sc := defScope s__law_classes) (by decide +kernel)) (fun _ _ _ _ _ => (pg_name (i := 16) sc__law_classes.nd rfl (Or.inl rfl))) (fun _ _ _ _ _ => pts_nil) (fun _ _ _ _ _ => (pe_bm PySem.F.plainAttrs_list PySem.F.slot_list_index PySem.F.type_list_index (mt_indexD (room65 hr)) (pv 13) (pa_cons (pv 16) pa_nil))))
    (pss_cons (ps_if (pt_cmpR (op_eqD hr.units) (pv 15) (pv 11) (nomark _))
    (pss_one ps_break)
    pss_nil)
    (pss_one (ps_set (i := 11) sc__law_classes.nd rfl (Or.inr rfl) (pv 15)))))))
    (pss_one (ps_ret (pv 11))))))))), (FunD.bindsN F (fun _ _ _ _ _ _ us hl => match us, hl with | [_, _], _ => rfl)), E.g__law_classes, F.kp⟩
def lwAl (f : List Int) (n m : Nat) : List (Nat × Nat) := (pairs n m).filter fun z => decide (f.getD z.1 0 = f.getD (n + z.2) 0)
def sp__law_alike (w : World) (K : PySem.W.Frag) : Sp := fun vs H Q _ => ∃ (a b : V) (A B : Bk), vs = [a, b] ∧ LwB K H a A ∧ LwB K H b B ∧ A.Ok ∧ B.Ok ∧
  ∀ H' T ps fs, Ex H H' → SqT K H' T ps → ClsOk A B fs → DtAll K H' ps ((lwAl fs A.sides.length B.sides.length).map prD) → Q (.ref T) H'
/-! ### a tuple of which is known that it bears no dict: t.count(..) -/
def TupN (H : Hp) (p : Addr) (xs : List V) : Prop := ∃ o, H p = some (.frz o (.tup xs)) ∧ o.cls = .type "tuple" ∧ o.dict = none
theorem TupN.t {K : PySem.W.Frag} {H : Hp} {p : Addr} {xs : List V} (h : TupN H p xs) : SqT K H p xs := by
  obtain ⟨o, e, _⟩ := h
  exact .inl (.inr ⟨o, e⟩)
theorem TupN.ex {H H' : Hp} (k : Ex H H') {p : Addr} {xs : List V} (h : TupN H p xs) : TupN H' p xs := by
  obtain ⟨o, e, r⟩ := h
  exact ⟨o, k _ _ e, r⟩
def rTupF (K : PySem.W.Frag) : List V → Hp → VK → Prop := fun vs H Q => ∃ a xs, vs = [.ref a] ∧ SqL K H a xs ∧ ∀ b H', Ex H H' → TupN H' b xs → Q (.ref b) H'
theorem call_tuple_f {X : Cx} : CallR X (.type "tuple") (rTupF X.K) := fun pins s σ H vs us Q I r ⟨a, xs, e0, hq, q⟩ => by
  subst e0
  obtain ⟨u, rfl, rx⟩ := vals1 r
  cases rx
  obtain ⟨items, rv, pl, sz⟩ := I.list hq
  have hlen := rv.length
  refine call_tuple_list pl.isList (fun h' kp => ?_) (by simp only [List.size_toArray] <;> omega)
  have J0 : Inv X pins σ H { s with heap := h' } := I.kept (t' := s.toks) kp
  have J2 : Inv X pins σ (upd H h'.objs.size (.frz { cls := .type "tuple", data := .seq items.toArray } (.tup xs))) { s with heap := h'.push { cls := .type "tuple", data := .seq items.toArray } } :=
    J0.laid (t' := s.toks) (fun b o e => Heap.get?_push_of_some _ e) (Nat.le_refl _) (show ObjOk X.prog X.w _ _ _ (.frz _ (.tup xs)) from ⟨Heap.get?_push_size _ rfl, sz, items, rv, IsTup.new _ _⟩)
  exact ⟨.ref h'.objs.size, _, J2, rfl, q _ _ (Evl.Ex.new (J0.hok.fresh (Nat.le_refl _))) ⟨_, upd_same, rfl, rfl⟩⟩
def tBMF (r : V → List V → Hp → VK → Prop) (to : TE) (t : TA) : TE := fun σ H Q => to σ H fun x H1 => (∃ p xs, x = .ref p ∧ TupN H1 p xs) ∧ t σ H1 fun xs H2 => r x xs H2 Q
theorem pe_bmF {X : Cx} {o e : Expr} {es : List Expr} {to : TE} {t : TA} {name : Str} {apos cpos : Pos} {id : String} {r : V → List V → Hp → VK → Prop} (pa : PlainAttrs "tuple") (slot : Slot "tuple" name id) (hty : typeOf (.builtin id) = pure (.type "method_descriptor")) (hm : MtR X id r) (ho : PE X o to) (ha : PA X (e :: es) t)
    (hbase : attributeBase o name X.env (eval o X.env) = eval o X.env := by rfl)
    (few : ((backTo cpos (starEach (e :: es) X.env)).all (fun x => !x.1) && (backToKw cpos (keywordEach [] X.env)).all (fun x => x.1.isSome) && decide ((e :: es).length + ([] : List Keyword).length + (if ([] : List Keyword).isEmpty then 0 else 1) < 30)) = true := by rfl)
    (line : (apos.endLine == cpos.line) = true := by rfl) (hs : starEach (e :: es) X.env = (false, eval e X.env) :: starEach es X.env := by rfl) (hpl : (backTo cpos (starEach es X.env)).any (·.1) = false := by rfl) :
    PE X (.Call (.Attribute o name apos) (e :: es) [] cpos) (tBMF r to t) := ⟨fun pins s σ H Q I h => by
  refine wpAny_Call_method_late hbase few line rfl (thn (ho.run pins s σ H _ I h) fun v s1 ⟨x, H1, I1, r1, ⟨p, ys, ex, ob, hob, hc, hd⟩, q1⟩ => ?_)
  subst ex
  cases r1
  have at1 : s1.heap.get? p = some ob := (I1.hok p _ hob).1
  refine ⟨"tuple", id, pa, slot, hty, ⟨ob, at1, hc⟩, fun a z => ?_, ?_⟩
  · cases z
    exact ⟨ob, at1, hd⟩
  · have hA := ha.run cpos pins s1 σ H1 _ I1 q1
    rw [hs] at hA ⊢
    refine Calls.callWith_builtin (by show (false || (backTo cpos (starEach es X.env)).any (·.1)) = false; rw [hpl] <;> rfl) (Calls.evalArgs_plain ?_)
    exact thn hA fun us s2 ⟨vs, H2, I2, r2, q2⟩ => hm pins s2 σ H2 (.ref p) vs (.ref p) us Q I2 (show RelV (.ref p) (.ref p) from rfl) r2 q2⟩
/-- numbers in the order of their first place -/
def nbr : List Int → List Int × List Int → List Int × List Int
  | [], st => st
  | f :: l, st => nbr l (if f ∈ st.1 then (st.1, st.2 ++ [((st.1.findIdx fun x => decide (x = f) : Nat) : Int)]) else (st.1 ++ [f], st.2 ++ [((st.1.length : Nat) : Int)]))
def nbrs (fs : List Int) : List Int := (nbr fs ([], [])).2
def sp__law_numbered (w : World) (K : PySem.W.Frag) : Sp := fun vs H Q _ => ∃ (a : Addr) (fs : List Int), vs = [.ref a] ∧ SqL K H a (fs.map V.int) ∧ fs.length ≤ 100 ∧ ∀ H' T, Ex H H' → TupN H' T ((nbrs fs).map V.int) → Q (.ref T) H'
def N__law_alike : List Str := ["_law_one", "_law_other", "_law_found", "_law_size", "_law_pairs", "_law_place", "_law_another"]
theorem sc__law_alike : FnScope N__law_alike ["_law_one", "_law_other"] (defScope s__law_alike) := ⟨rfl, rfl, rfl, by decide +kernel, rfl, by decide +kernel, by decide +kernel⟩
/-- names: 0 _law_one 1 _law_other 2 _law_found 3 _law_size 4 _law_pairs 5 _law_place 6 _law_another -/
def t__law_alike (P : Program) (w : World) (K : PySem.W.Frag) : TS :=
    (tSeq (tPar3 2 3 4 (tCons (tFn (sp__law_classes w K) (tCons (tVar 0) (tCons (tVar 1) tNil))) (tCons (tCB (rLenX K) (tCons (tDGet (tVar 0) (tC (.str "sides"))) tNil)) (tCons (tLst tNil) tNil))))
    (tSeq (tFor (iRng1 (tCons (tVar 3) tNil)) (gName 5)
    (tFor (iRng1 (tCons (tCB (rLenX K) (tCons (tDGet (tVar 1) (tC (.str "sides"))) tNil)) tNil)) (gName 6)
    (tIfS (tTest (tOp rEq (tOp (rIxL K) (tVar 2) (tVar 5)) (tOp (rIxL K) (tVar 2) (tOp rAddI (tVar 3) (tVar 6)))))
    (tDrop (tBM K "list" rAppend (tVar 4) (tCons (tTup (tCons (tVar 5) (tCons (tVar 6) tNil))) tNil)))
    tNext)))
    (tRet (tCB (rTupQ K) (tCons (tVar 4) tNil)))))
def N__law_numbered : List Str := ["_law_found", "_law_seen", "_law_told", "_law_one"]
theorem sc__law_numbered : FnScope N__law_numbered ["_law_found"] (defScope s__law_numbered) := ⟨rfl, rfl, rfl, by decide +kernel, rfl, by decide +kernel, by decide +kernel⟩
/-- names: 0 _law_found 1 _law_seen 2 _law_told 3 _law_one -/
def t__law_numbered (P : Program) (w : World) (K : PySem.W.Frag) : TS :=
    (tSeq (tPar 1 2 (tCons (tLst tNil) (tCons (tLst tNil) tNil)))
    (tSeq (tFor (iList K (tVar 0)) (gName 3)
    (tSeq (tIfS (tTest (tOp (rIn K true) (tVar 3) (tVar 1)))
    (tDrop (tBM K "list" rAppend (tVar 1) (tCons (tVar 3) tNil)))
    tNext)
    (tDrop (tBM K "list" rAppend (tVar 2) (tCons (tBM K "list" (rIndex K) (tVar 1) (tCons (tVar 3) tNil)) tNil)))))
    (tRet (tCB (rTupF K) (tCons (tVar 2) tNil)))))
section
variable {P : Program} {w : World} {K : PySem.W.Frag} {mg : Str → Option Value} (E : Ctx w K mg)
include E
theorem rd__law_alike (vs : List V) (H : Hp) (Q : VK) (E0 : XK) (h : sp__law_alike w K vs H Q E0) : vs.length = 2 ∧ t__law_alike P w K { nx := fun _ H' => Q .non H', rt := Q } (start N__law_alike vs) H := by
  obtain ⟨a, b, A, B, rfl, LA, LB, oA, oB, q⟩ := h
  have nA := oA.n1
  have nB := oB.n1
  refine ⟨rfl, _, rfl, _, rfl, a, b, A, B, rfl, LA, LB, oA, oB, fun H1 l fs e1 hl cls lf => ?_⟩
  obtain ⟨oa, sa, ma, ga, amss, agss, rfl, lwA⟩ := LA.ex e1
  obtain ⟨ob, sb, mb, gb, bmss, bgss, rfl, lwB⟩ := LB.ex e1
  refine ⟨_, rfl, oa, _, rfl, lwA.gs, _, _, rfl, .inl ⟨_, Evl.sq_of lwA.s, rfl⟩, (by show 0 ≤ sizeLine; decide), fun F hF => ⟨_, _, _, rfl, ?_⟩⟩
  rw [List.length_map] at *
  have eF := Ex.new (o := .lst []) hF
  refine ⟨_, rfl, _, rfl, by omega, by omega, ?_⟩
  rw [Int.toNat_natCast]
  let Inv : List (Nat × Nat) → Hp → Prop := fun zs H' => Ex H1 H' ∧ ∃ ps, H' F = some (.lst ps) ∧ DtAll K H' ps ((zs.filter fun z => decide (fs.getD z.1 0 = fs.getD (A.sides.length + z.2) 0)).map prD) ∧ ps.length ≤ zs.length
  refine for_it walk_range (fun i σ H' => (∃ x5 x6, σ = [some (.ref oa), some (.ref ob), some (.ref l), some (.int (A.sides.length : Nat)), some (.ref F), x5, x6]) ∧ Inv (pairs i B.sides.length) H') ⟨⟨none, none, rfl⟩, eF, [], upd_same, .nil, Nat.zero_le _⟩ (fun _ _ _ _ _ => trivial) ?_ ?_
  · rintro i x σ H2 H2' hi ⟨⟨x5, x6, rfl⟩, iv⟩ ⟨rfl, hx⟩
    have hx2 : x = .int (i : Nat) := hx.trans (congrArg V.int (Int.zero_add _))
    subst hx2
    have lwB2 := lwB.ex iv.1
    refine ⟨_, rfl, ob, _, rfl, lwB2.gs, _, _, rfl, .inl ⟨_, Evl.sq_of lwB2.s, rfl⟩, _, rfl, by rw [List.length_map]; omega, by rw [List.length_map]; omega, ?_⟩
    rw [List.length_map, Int.toNat_natCast]
    refine for_it walk_range (fun j σ H' => (∃ x6, σ = [some (.ref oa), some (.ref ob), some (.ref l), some (.int (A.sides.length : Nat)), some (.ref F), some (.int (i : Nat)), x6]) ∧ Inv (pairs i B.sides.length ++ (List.range j).map fun q => (i, q)) H') ⟨⟨_, rfl⟩, by simpa using iv⟩ (fun _ _ _ _ _ => trivial) ?_ ?_
    · rintro j y σ H3 H3' hj ⟨⟨x6, rfl⟩, e3, ps, hF3, al3, lp3⟩ ⟨rfl, hy⟩
      have hy2 : y = .int (j : Nat) := hy.trans (congrArg V.int (Int.zero_add _))
      subst hy2
      have hl3 := e3 _ _ hl
      have at1 : (fs.map V.int)[i]? = some (.int (fs.getD i 0)) := by
        rw [List.getElem?_map, List.getElem?_eq_getElem (by omega), List.getD_eq_getElem?_getD, List.getElem?_eq_getElem (by omega)]
        rfl
      have at2 : (fs.map V.int)[A.sides.length + j]? = some (.int (fs.getD (A.sides.length + j) 0)) := by
        rw [List.getElem?_map, List.getElem?_eq_getElem (by omega), List.getD_eq_getElem?_getD, List.getElem?_eq_getElem (by omega)]
        rfl
      have esum : ((A.sides.length : Nat) : Int) + ((j : Nat) : Int) = ((A.sides.length + j : Nat) : Int) := by omega
      have step : pairs i B.sides.length ++ (List.range (j + 1)).map (fun q => (i, q)) = (pairs i B.sides.length ++ (List.range j).map fun q => (i, q)) ++ [(i, j)] := by
        rw [List.range_succ, List.map_append, List.append_assoc]
        rfl
      have lenp : ps.length < 1000 := by
        rw [List.length_append, pairs_len, List.length_map, List.length_range] at lp3
        have : i * B.sides.length ≤ 7 * 7 := Nat.mul_le_mul (by omega) nB
        omega
      refine ⟨_, rfl, _, rfl, l, _, (i : Nat), _, rfl, rfl, Evl.sq_of hl3, atI_nat at1, _, rfl, _, rfl, _, rfl, _, (j : Nat), rfl, rfl, l, _, _, .int (fs.getD (A.sides.length + j) 0), rfl, rfl, Evl.sq_of hl3, ?_, rfl, _, rfl, ?_⟩
      · show atI (fs.map V.int) (((A.sides.length : Nat) : Int) + ((j : Nat) : Int)) = _
        rw [esum]
        exact atI_nat at2
      · rw [eqI]
        refine ite2 (fun c => ?_) fun c => ?_
        · refine ⟨_, rfl, .inl ⟨rfl, _, Evl.sq_of hF3⟩, _, rfl, _, rfl, (by show 2 ≤ sizeLine; decide), fun T hT => ?_⟩
          have eT := Ex.new (o := .tup [.int (i : Nat), .int (j : Nat)]) hT
          have hF4 := eT _ _ hF3
          refine ⟨F, ps, _, rfl, rfl, hF4, Evl.sz_lt (by omega), ⟨_, rfl⟩, (e3.trans eT).mut hF, ps ++ [.ref T], upd_same, ?_, ?_⟩
          · have hf : decide (fs.getD (i, j).1 0 = fs.getD (A.sides.length + (i, j).2) 0) = true := c
            rw [step, List.filter_append, List.filter_cons_of_pos (p := fun z : Nat × Nat => decide (fs.getD z.1 0 = fs.getD (A.sides.length + z.2) 0)) hf, List.filter_nil, List.map_append]
            exact ((al3.tk (.ex eT)).app (.one (Dt.mk (Evl.st_of upd_same) (.cons (.int _) (.one (.int _)))))).tk (.up hF4 noTup_lst)
          · rw [step, List.length_append, List.length_append (as := pairs i B.sides.length ++ _)]
            exact Nat.add_le_add lp3 (Nat.le_refl _)
        · refine ⟨⟨_, rfl⟩, e3, ps, hF3, ?_, ?_⟩
          · have hf : ¬ decide (fs.getD (i, j).1 0 = fs.getD (A.sides.length + (i, j).2) 0) = true := c
            rw [step, List.filter_append, List.filter_cons_of_neg (p := fun z : Nat × Nat => decide (fs.getD z.1 0 = fs.getD (A.sides.length + z.2) 0)) hf, List.filter_nil, List.append_nil]
            exact al3
          · rw [step, List.length_append]
            exact Nat.le_trans lp3 (Nat.le_add_right _ _)
    · rintro σ H3 ⟨⟨x6, rfl⟩, iv3⟩
      refine ⟨⟨_, _, rfl⟩, ?_⟩
      rw [pairs_succ]
      exact iv3
  · rintro σ H2 ⟨⟨x5, x6, rfl⟩, e2, ps, hF2, al2, lp2⟩
    exact ⟨_, rfl, F, ps, rfl, .inl (Evl.sq_of hF2), fun T H3 e3 s3 => q H3 T ps fs ((e1.trans e2).trans e3) s3 cls (al2.tk (.ex e3))⟩
end
theorem ok__law_alike {P : Program} {w : World} {K : PySem.W.Frag} {mg : Str → Option Value} {base : Heap} (E : Ctx w K mg) : DefOk P w K mg base "_law_alike" [("_law_one" : Str), ("_law_other" : Str)] 5 (sp__law_alike w K) := by
  obtain ⟨fd, F⟩ := E.D__law_alike
  exact ⟨_, fd, fn_mk (t := t__law_alike P w K) F sc__law_alike (rd__law_alike E) (fun cdv A outer s H E0 hr => (pss_cons (ps_par3 (i := 2) (j := 3) (l := 4) rfl sc__law_alike.nd rfl rfl rfl (by decide) (by decide) (by decide) rfl rfl rfl (pa_cons (pe_fn (ok__law_classes E) (hr.mono (by decide)) (by rfl) (pa_cons (pv 0) (pa_cons (pv 1) pa_nil))) (pa_cons (pe_callB call_len (by rfl) E.f_len (by decide +kernel) (pa_cons (pe_dget (hu_of hr) (pv 0) pe_str (fun _ _ => rfl)) pa_nil)) (pa_cons (pe_lst pa_nil) pa_nil))) rfl)
    (pss_cons (ps_for PassesOwn.never rfl (pi_range1 (by rfl) E.f_range (pa_cons (pv 3) pa_nil)) (pg_name (i := 5) sc__law_alike.nd rfl (Or.inl rfl))
    (pss_one (ps_for PassesOwn.never rfl (pi_range1 (by rfl) E.f_range (pa_cons (pe_callB call_len (by rfl) E.f_len (by decide +kernel) (pa_cons (pe_dget (hu_of hr) (pv 1) pe_str (fun _ _ => rfl)) pa_nil)) pa_nil)) (pg_name (i := 6) sc__law_alike.nd rfl (Or.inl rfl))
    (pss_one (ps_if (pt_cmpR op_eq (pe_ix ix_list (pv 2) (pv 5) (fun _ _ => rfl)) (pe_ix ix_list (pv 2) (pe_op op_add (pv 3) (pv 6)) (fun _ _ => rfl)) (nomark _))
    (pss_one (ps_expr (pe_bm PySem.F.plainAttrs_list PySem.F.slot_list_append PySem.F.type_list_append mt_append (pv 4) (pa_cons (pe_tup (pa_cons (pv 5) (pa_cons (pv 6) pa_nil))) pa_nil))))
    pss_nil)))))
    (pss_one (ps_ret (pe_callTy call_tuple_q (by rfl) E.f_tuple (by decide +kernel) (pa_cons (pv 4) pa_nil))))))), (FunD.bindsN F (fun _ _ _ _ _ _ us hl => match us, hl with | [_, _], _ => rfl)), E.g__law_alike, F.kp⟩
theorem nbr_snoc (l : List Int) (f : Int) (st : List Int × List Int) : nbr (l ++ [f]) st = nbr [f] (nbr l st) := by
  induction l generalizing st with
  | nil => rfl
  | cons x l ih => exact ih _
theorem nbr_len : ∀ (l : List Int) (st : List Int × List Int), (nbr l st).2.length = st.2.length + l.length ∧ (nbr l st).1.length ≤ st.1.length + l.length
  | [], st => ⟨rfl, Nat.le_refl _⟩
  | f :: l, st => by
    have ih := nbr_len l (if f ∈ st.1 then (st.1, st.2 ++ [((st.1.findIdx fun x => decide (x = f) : Nat) : Int)]) else (st.1 ++ [f], st.2 ++ [((st.1.length : Nat) : Int)]))
    have e : nbr (f :: l) st = nbr l (if f ∈ st.1 then (st.1, st.2 ++ [((st.1.findIdx fun x => decide (x = f) : Nat) : Int)]) else (st.1 ++ [f], st.2 ++ [((st.1.length : Nat) : Int)])) := rfl
    rw [e, List.length_cons]
    by_cases c : f ∈ st.1
    · rw [if_pos c] at ih ⊢
      simp only [List.length_append, List.length_singleton] at ih
      constructor
      · omega
      · omega
    · rw [if_neg c] at ih ⊢
      simp only [List.length_append, List.length_singleton] at ih
      constructor
      · omega
      · omega
theorem inV_int (f : Int) (l : List Int) : inV (.int f) (l.map V.int) = decide (f ∈ l) := by
  unfold inV
  rw [List.any_map]
  by_cases h : f ∈ l
  · rw [decide_eq_true h]
    exact List.any_eq_true.mpr ⟨f, h, by show (f == f) = true; exact beq_self_eq_true f⟩
  · rw [decide_eq_false h]
    refine Bool.eq_false_iff.mpr fun q => h ?_
    obtain ⟨y, hy, e⟩ := List.any_eq_true.mp q
    have e2 : (y == f) = true := e
    rw [← beq_iff_eq.mp e2]
    exact hy
theorem flat_ints (l : List Int) : (l.map V.int).all flatV = true := by
  rw [List.all_map]
  exact List.all_eq_true.mpr fun _ _ => rfl
section
variable {P : Program} {w : World} {K : PySem.W.Frag} {mg : Str → Option Value} (E : Ctx w K mg)
include E
theorem rd__law_numbered (vs : List V) (H : Hp) (Q : VK) (E0 : XK) (h : sp__law_numbered w K vs H Q E0) : vs.length = 1 ∧ t__law_numbered P w K { nx := fun _ H' => Q .non H', rt := Q } (start N__law_numbered vs) H := by
  obtain ⟨a, fs, rfl, s, lf, q⟩ := h
  refine ⟨rfl, (by show 0 ≤ sizeLine; decide), fun S hS => ⟨(by show 0 ≤ sizeLine; decide), fun T hT => ⟨_, _, rfl, ?_⟩⟩⟩
  have e1 := Ex.new (o := .lst []) hS
  have e2 := Ex.new (o := .lst []) hT
  have nST : S ≠ T := fun z => by rw [← z, upd_same] at hT; cases hT
  have hT0 : H T = none := Evl.fresh_back e1 hT
  refine ⟨_, rfl, a, rfl, ⟨_, Evl.ex_l (e1.trans e2) s⟩, ?_⟩
  refine for_it (walk_list (xs := fs.map V.int)) (fun i σ H' => (∃ x3, σ = [some (.ref a), some (.ref S), some (.ref T), x3]) ∧ Ex H H' ∧ H' S = some (.lst ((nbr (fs.take i) ([], [])).1.map V.int)) ∧ H' T = some (.lst ((nbr (fs.take i) ([], [])).2.map V.int))) ⟨⟨none, rfl⟩, e1.trans e2, e2 _ _ upd_same, upd_same⟩ (fun _ _ _ _ z => Evl.ex_l z.2.1 s) ?_ ?_
  · rintro i x σ H1 H1' hi ⟨⟨x3, rfl⟩, e3, hS1, hT1⟩ ⟨rfl, hx⟩
    rw [List.length_map] at hi
    rw [List.getElem?_map, List.getElem?_eq_getElem hi] at hx
    cases hx
    have tk : fs.take (i + 1) = fs.take i ++ [fs[i]] := by
      rw [List.take_succ, List.getElem?_eq_getElem hi]
      rfl
    generalize fs[i] = f at tk
    obtain ⟨lb2, lb1⟩ := nbr_len (fs.take i) ([], [])
    have lt : (fs.take i).length ≤ 100 := by
      rw [List.length_take]
      omega
    rw [List.length_nil] at lb1 lb2
    rw [tk, nbr_snoc]
    generalize nbr (fs.take i) ([], []) = st at *
    refine ⟨_, rfl, _, rfl, S, _, rfl, .inl (Evl.sq_of hS1), rfl, flat_ints _, ?_⟩
    rw [if_pos rfl, inV_int]
    refine ⟨_, rfl, ?_⟩
    by_cases c : f ∈ st.1
    · rw [decide_eq_true c]
      have eN : nbr [f] st = (st.1, st.2 ++ [((st.1.findIdx fun x => decide (x = f) : Nat) : Int)]) := if_pos c
      rw [eN]
      have hlt : (st.1.findIdx fun x => decide (x = f)) < st.1.length := List.findIdx_lt_length_of_exists ⟨f, c, decide_eq_true rfl⟩
      have hat : st.1[st.1.findIdx fun x => decide (x = f)] = f := of_decide_eq_true (List.findIdx_getElem (p := fun x => decide (x = f)) (w := hlt))
      refine ⟨_, rfl, .inl ⟨rfl, _, Evl.sq_of hT1⟩, _, rfl, .inl ⟨rfl, _, Evl.sq_of hS1⟩, _, rfl, S, _, .int f, st.1.findIdx fun x => decide (x = f), .int f, rfl, rfl, Evl.sq_of hS1, rfl, flat_ints _, ?_, beq_self_eq_true f, fun m z hm hz => ?_, T, _, _, rfl, rfl, hT1, Evl.sz_lt (by rw [List.length_map]; omega), ⟨_, rfl⟩, e3.mut hT0, ?_, ?_⟩
      · rw [List.getElem?_map, List.getElem?_eq_getElem hlt, hat]
        rfl
      · rw [List.getElem?_map, List.getElem?_eq_getElem (by omega)] at hz
        cases hz
        have nn := List.not_of_lt_findIdx (p := fun x => decide (x = f)) hm
        show (st.1[m] == f) = false
        have nn2 : ¬ st.1[m] = f := by simpa using nn
        exact beq_eq_false_iff_ne.mpr nn2
      · rw [upd_ne nST]
        exact hS1
      · rw [upd_same, List.map_append]
        rfl
    · rw [decide_eq_false c]
      have eN : nbr [f] st = (st.1 ++ [f], st.2 ++ [((st.1.length : Nat) : Int)]) := if_neg c
      rw [eN]
      have hS2 : upd H1' S (.lst ((st.1 ++ [f]).map V.int)) S = some (.lst ((st.1 ++ [f]).map V.int)) := upd_same
      have hT2 : upd H1' S (.lst ((st.1 ++ [f]).map V.int)) T = some (.lst (st.2.map V.int)) := by
        rw [upd_ne nST.symm]
        exact hT1
      refine ⟨_, rfl, .inl ⟨rfl, _, Evl.sq_of hS1⟩, _, rfl, S, _, _, rfl, rfl, hS1, Evl.sz_lt (by rw [List.length_map]; omega), ?_⟩
      have eapp : st.1.map V.int ++ [.int f] = (st.1 ++ [f]).map V.int := by
        rw [List.map_append]
        rfl
      rw [eapp]
      refine ⟨_, rfl, .inl ⟨rfl, _, Evl.sq_of hT2⟩, _, rfl, .inl ⟨rfl, _, Evl.sq_of hS2⟩, _, rfl, S, _, .int f, st.1.length, .int f, rfl, rfl, Evl.sq_of hS2, rfl, flat_ints _, ?_, beq_self_eq_true f, fun m z hm hz => ?_, T, _, _, rfl, rfl, hT2, Evl.sz_lt (by rw [List.length_map]; omega), ⟨_, rfl⟩, (e3.mut hS).mut hT0, ?_, ?_⟩
      · rw [List.getElem?_map, List.getElem?_concat_length]
        rfl
      · rw [List.getElem?_map, List.getElem?_append_left hm, List.getElem?_eq_getElem hm] at hz
        cases hz
        show (st.1[m] == f) = false
        exact beq_eq_false_iff_ne.mpr fun z => c (by rw [← z]; exact List.getElem_mem hm)
      · rw [upd_ne nST]
        exact hS2
      · rw [upd_same, List.map_append]
        rfl
  · rintro σ H1 ⟨⟨x3, rfl⟩, e3, hS1, hT1⟩
    rw [List.length_map, List.take_length] at hT1
    exact ⟨_, rfl, T, _, rfl, Evl.sq_of hT1, fun T2 H2 e4 s2 => q H2 T2 (e3.trans e4) s2⟩
end
theorem ok__law_numbered {P : Program} {w : World} {K : PySem.W.Frag} {mg : Str → Option Value} {base : Heap} (E : Ctx w K mg) : DefOk P w K mg base "_law_numbered" [("_law_found" : Str)] 1 (sp__law_numbered w K) := by
  obtain ⟨fd, F⟩ := E.D__law_numbered
  exact ⟨_, fd, fn_mk (t := t__law_numbered P w K) F sc__law_numbered (rd__law_numbered E) (fun cdv A outer s H E0 hr => (pss_cons (ps_par (i := 1) (j := 2) rfl sc__law_numbered.nd rfl rfl (by decide) rfl rfl (pa_cons (pe_lst pa_nil) (pa_cons (pe_lst pa_nil) pa_nil)) rfl)
    (pss_cons (ps_for PassesOwn.never rfl (pi_list (pv 0)) (pg_name (i := 3) sc__law_numbered.nd rfl (Or.inl rfl))
    (pss_cons (ps_if (pt_cmpR op_notIn_seq (pv 3) (pv 1) (by rfl))
    (pss_one (ps_expr (pe_bm PySem.F.plainAttrs_list PySem.F.slot_list_append PySem.F.type_list_append mt_append (pv 1) (pa_cons (pv 3) pa_nil))))
    pss_nil)
    (pss_one (ps_expr (pe_bm PySem.F.plainAttrs_list PySem.F.slot_list_append PySem.F.type_list_append mt_append (pv 2) (pa_cons (pe_bm PySem.F.plainAttrs_list PySem.F.slot_list_index PySem.F.type_list_index mt_index (pv 1) (pa_cons (pv 3) pa_nil)) pa_nil))))))
    (pss_one (ps_ret (pe_callTy call_tuple_f (by rfl) E.f_tuple (by decide +kernel) (pa_cons (pv 2) pa_nil))))))), (FunD.bindsN F (fun _ _ _ _ _ _ us hl => match us, hl with | [_], _ => rfl)), E.g__law_numbered, F.kp⟩
end K28

set_option Elab.async false
set_option linter.all false
set_option maxRecDepth 100000
set_option maxHeartbeats 4000000
namespace K28
open PySem PySem.Spec PyProof.Rows L2
open Evl (Ex)

/-! ## BadPlace, raised -/
section
variable {P : Program} {w : World} {K : PySem.W.Frag} {mg : Str → Option Value} {base : Heap} (E : Ctx w K mg)
include E
theorem bad_oex : OexC K (He.ga K "BadPlace") := by
  obtain ⟨h, X, G, c⟩ := E.ex
  have b : oexB K (cBad K) = true := ex_at c.more 0 rfl
  refine ⟨?_, He.eqO_ok (ex_at c.more 1 rfl), of_decide_eq_true (ex_at c.more 2 rfl), of_decide_eq_true (ex_at c.more 3 rfl), ex_at c.more 4 rfl⟩
  unfold oexB at b
  split at b
  · rename_i dd cd sl lk
    split at b
    · rename_i C' bm k0 k1 k2 k3 n k5 hm hs
      obtain ⟨b1, b2⟩ := Bool.and_eq_true_iff.mp b
      obtain ⟨b3, b4⟩ := Bool.and_eq_true_iff.mp b1
      obtain ⟨b5, b6⟩ := Bool.and_eq_true_iff.mp b2
      obtain ⟨b7, b8⟩ := Bool.and_eq_true_iff.mp b6
      have e1 : C' = He.ga K "BadPlace" := beq_iff_eq.mp b3
      have e2 : n = "ValueError.__new__" := beq_iff_eq.mp b4
      have e3 : cd.hasDel = false := by simpa using b5
      obtain ⟨nm, bs, mro, ns, q, hd, sn, sub, ab, col, del⟩ := cd
      simp only at hm e3 b7
      subst e1 e2 e3 b7 hm
      have e4 : sl = #[k0, k1, k2, k3, some (.builtin "ValueError.__new__"), k5] := by
        have := congrArg List.toArray hs
        simpa using this
      subst e4
      exact ⟨nm, q, ns, bs, bm, sn, sub, ab, col, dd, k0, k1, k2, k3, k5, lk, b8⟩
    · cases b
  · cases b
theorem bad_xf : XfC K (He.ga K "BadPlace") ∧ PySem.W.findIn K (.ref (He.ga K "BadPlace")) "value" = some none ∧ PySem.W.findIn K (.ref (He.ga K "BadPlace")) "__init__" = some (some (.ref (fBad K))) ∧ PySem.W.typeIn K (.ref (fBad K)) = some (.type "function") := by
  obtain ⟨h, X, G, c⟩ := E.ex
  exact ⟨xfB_ok (ex_at c.more 5 rfl), He.eqO_ok (ex_at c.more 6 rfl), He.eqO_ok (ex_at c.more 7 rfl), of_decide_eq_true (ex_at c.more 8 rfl)⟩
theorem lead_facts : PySem.W.readsIn K (cLead K) (.type "type") = true ∧ PySem.W.specialIn K (.ref (cLead K)) "__getattribute__" = some (some (.builtin "type.__getattribute__")) ∧ PySem.W.findCls K (.ref (cLead K)) (.type "type") "__init__" = some (.val (.builtin "ValueError.__init__")) := by
  obtain ⟨h, X, G, c⟩ := E.ex
  refine ⟨ex_at c.more 9 rfl, He.eqO_ok (ex_at c.more 10 rfl), ?_⟩
  have b : ldB K (cLead K) = true := ex_at c.more 11 rfl
  unfold ldB at b
  split at b
  · rename_i n q
    rw [q, beq_iff_eq.mp b]
  · cases b
end
def sp_bad (w : World) (K : PySem.W.Frag) : Sp := fun vs H Q _ => ∃ (a : Addr) (v : V), vs = [.ref a, v] ∧ H a = some (exo a (He.ga K "BadPlace") none) ∧ ∀ dx, H dx = none → dx ≠ a → Q .non (upd (upd H dx (exd dx [("value", v)])) a (exo a (He.ga K "BadPlace") (some dx)))
def N_bad : List Str := ["self", "value"]
theorem sc_bad : FnScope N_bad ["self", "value"] (defScope s_BadPlace___init__) := ⟨rfl, rfl, rfl, by decide +kernel, rfl, by decide +kernel, by decide +kernel⟩
def t_bad (K : PySem.W.Frag) (msg : Str) : TS := tSeq (tDrop (tVeI K (tCons (tVar 0) (tCons (tC (.str msg)) tNil)))) (tOst K "value" (tVar 0) (tVar 1))
theorem ok_bad {P : Program} {w : World} {K : PySem.W.Frag} {mg : Str → Option Value} {base : Heap} (E : Ctx w K mg) : ∃ fd, FnOk P w K mg base CX0 1 (fBad K) fd ["self", "value"] (sp_bad w K) ∧ Binds K fd ["self", "value"] [] := by
  obtain ⟨fd, F⟩ := E.D_BadPlace___init__
  obtain ⟨l1, l2, l3⟩ := lead_facts E
  refine ⟨fd, fn_mk (t := t_bad K "A value that is not a place.") F sc_bad (fun vs H Q _ h => ?_) (fun cdv A outer s H E0 hr => (pss_cons (ps_expr (pe_lead (by rfl) E.g_LeadError l1 l2 l3 (pa_cons (pv 0) (pa_cons pe_str pa_nil)))) (pss_one (ps_ost (pv 0) (pv 1))))), (FunD.bindsN F (fun _ _ _ _ _ _ us hl => match us, hl with | [_, _], _ => rfl))⟩
  obtain ⟨a, v, rfl, ha, q⟩ := h
  obtain ⟨x1, x2, x3, x4⟩ := bad_xf E
  exact ⟨rfl, _, rfl, a, He.ga K "BadPlace", _, rfl, by show 1 ≤ 1000; decide, bad_oex E, ha, _, rfl, _, rfl, a, He.ga K "BadPlace", rfl, bad_oex E, x2, .inl ⟨ha, fun dx h1 h2 => q dx h1 h2⟩⟩
/-- a value that is no place of a book with n places -/
def BadV (K : PySem.W.Frag) (H : Hp) (v : V) (n : Nat) : Prop := IsI K H v false ∨ ∃ i : Int, v = .int i ∧ ¬ (0 ≤ i ∧ i < n)
/-- raised: its dict is new -/
def RaisesV (K : PySem.W.Frag) (H : Hp) (v : V) (E : XK) : Prop := ∀ H' d, Ex H H' → H d = none → H' d = some (.xd [("value", v)]) → E (.ref (He.ga K "BadPlace")) (some d) H'
def DefOkX (P : Program) (w : World) (K : PySem.W.Frag) (mg : Str → Option Value) (base : Heap) (x : Str) (ps : List Str) (k : Nat) (sp : Sp) : Prop := ∃ (f : Addr) (fd : FuncData), FnOk P w K mg base (L2.CX P w) k f fd ps sp ∧ Binds K fd ps [] ∧ mg x = some (.ref f) ∧ PySem.W.keepIn K (.ref f) = true
def sp_check_placeX (w : World) (K : PySem.W.Frag) : Sp := fun vs H _ E => ∃ (b v : V) (B : Bk), vs = [b, v] ∧ IsBk K H b B ∧ BadV K H v B.sides.length ∧ RaisesV K H v E
theorem raise_bad {w : World} {K : PySem.W.Frag} {σ : L2.St} {H : Hp} {v : V} {i : Nat} {Q : XK} (hv : σ[i]? = some (some v)) (q : RaisesV K H v Q) : tMkO (He.ga K "BadPlace") (sp_bad w K) [] (tCons (tVar i) tNil) σ H Q := by
  refine ⟨v, hv, by show 1 ≤ 1000; decide, fun a ha => ⟨a, v, rfl, upd_same, fun dx hdx nda => ⟨rfl, dx, [("value", v)], upd_same, ?_, ?_, ?_⟩⟩⟩
  · rw [upd_ne nda, upd_same]
  · rw [upd_ne nda] at hdx
    exact hdx
  · have hd1 : H dx = none := by
      rw [upd_ne nda] at hdx
      exact hdx
    refine q _ dx (fun b o h => ?_) hd1 upd_same
    have n1 : b ≠ dx := ne_of_none h hd1
    have n2 : b ≠ a := ne_of_none h ha
    rw [upd_ne n1, del_ne n2, upd_ne n2, upd_ne n1, upd_ne n2]
    exact h
theorem ok_check_placeX {P : Program} {w : World} {K : PySem.W.Frag} {mg : Str → Option Value} {base : Heap} (E : Ctx w K mg) : DefOkX P w K mg base "check_place" ["book", "value"] 3 (sp_check_placeX w K) := by
  obtain ⟨fd, F⟩ := E.D_check_place
  obtain ⟨fd2, F2, b2⟩ := ok_bad (P := P) (base := base) E
  obtain ⟨x1, x2, x3, x4⟩ := bad_xf E
  refine ⟨_, fd, F.ok sc_check_place (fun vs H Q E h => ?_) (fun cdv A outer s H vs Q E0 hr h => ⟨_, (pss_one (ps_if (PW.pt (pw_or (pt_not (pt_val (pe_fn (ok_is_int E) (hr.mono (by decide)) (by rfl) (pa_cons (pv 1) pa_nil)))) (pw_or1 (pt_not (pt_chain op_le op_lt pe_int (pv 1) (pe_fld (pv 0) rfl))))))
    (pss_one (ps_raise rfl (takes_of rfl rfl rfl rfl) (pmk_oex (bad_oex E) x3 x4 F2 (hr.mono (by decide)) b2 .nil pass0 (by rfl) E.g_BadPlace (pa_cons (pv 1) pa_nil))))
    pss_nil)), ?_⟩), (FunD.bindsN F (fun _ _ _ _ _ _ us hl => match us, hl with | [_, _], _ => rfl)), E.g_check_place, F.kp⟩
  · obtain ⟨b, v, B, rfl, _⟩ := h
    rfl
  · obtain ⟨b, v, B, rfl, ⟨a, dx, sa, ma, ga, ms, gs, rfl, hb, _⟩, bad, rs⟩ := h
    rcases bad with hi | ⟨i, rfl, no⟩
    · exact ⟨_, rfl, _, false, rfl, hi, false, rfl, raise_bad rfl rs⟩
    · refine ⟨_, rfl, _, true, rfl, .int i, true, rfl, _, rfl, 0, i, rfl, rfl, _, rfl, ?_⟩
      refine ite2 (fun h0 => ?_) fun h0 => ?_
      · have h1 : ¬ i < (B.sides.length : Nat) := fun z => no ⟨of_decide_eq_true h0, z⟩
        exact ⟨_, rfl, a, _, dx, _, _, rfl, hb, E.cls_Book, E.na_Book_places, rfl, _, _, rfl, rfl, false, bf h1, raise_bad rfl rs⟩
      · exact ⟨false, rfl, raise_bad rfl rs⟩
end K28

set_option Elab.async false
set_option linter.all false
set_option maxRecDepth 100000
set_option maxHeartbeats 4000000
namespace K28
open PySem PySem.Spec PyProof.Rows L2
open Evl (Ex)

/-- the first value that is no place: the one that is raised with -/
def BadPair (K : PySem.W.Frag) (H : Hp) (A B : Bk) (p q x : V) : Prop := (x = p ∧ BadV K H p A.sides.length) ∨ (x = q ∧ (∃ i : Nat, p = .int i ∧ i < A.sides.length) ∧ BadV K H q B.sides.length)
def sp_check_pairX (w : World) (K : PySem.W.Frag) : Sp := fun vs H _ E => ∃ (a b p q x : V) (A B : Bk), vs = [a, p, b, q] ∧ IsBk K H a A ∧ IsBk K H b B ∧ BadPair K H A B p q x ∧ RaisesV K H x E
def sp_is_alikeX (w : World) (K : PySem.W.Frag) : Sp := sp_check_pairX w K
theorem ok_check_pairX1 {P : Program} {w : World} {K : PySem.W.Frag} {mg : Str → Option Value} {base : Heap} (E : Ctx w K mg) : DefOkX P w K mg base "check_pair" ["one", "place", "other", "another"] 4 (sp_check_pairX w K) := by
  obtain ⟨fd, F⟩ := E.D_check_pair
  obtain ⟨f2, fd2, F2, b2, g2, k2⟩ := ok_check_placeX (P := P) (base := base) E
  refine ⟨_, fd, F.ok sc_check_pair (fun vs H Q E h => ?_) (fun cdv A outer s H vs Q E0 hr h => ?_), (FunD.bindsN F (fun _ _ _ _ _ _ us hl => match us, hl with | [_, _, _, _], _ => rfl)), E.g_check_pair, F.kp⟩
  · obtain ⟨a, b, p, q, x, A, B, rfl, _⟩ := h
    rfl
  · obtain ⟨a, b, p, q, x, A, B, rfl, hA, hB, bad, rs⟩ := h
    rcases bad with ⟨rfl, bad⟩ | ⟨rfl, ⟨i, rfl, hi⟩, bad⟩
    · refine ⟨tSeq (tDrop (tCall (sp_check_placeX w K) [] E0 (tCons (tVar 0) (tCons (tVar 1) tNil)))) tNever, pss_cons (ps_expr (pe_call F2 (hr.mono (by decide)) (by rfl) g2 k2 b2 .nil (passes_call (takes_of rfl rfl rfl rfl) fun _ _ _ _ z => z) (pa_cons (pv 0) (pa_cons (pv 1) pa_nil)))) (pss_one ps_never), ?_⟩
      exact ⟨_, rfl, _, rfl, a, x, A, rfl, hA, bad, rs⟩
    · refine ⟨tSeq (tDrop (tFn (sp_check_place w K) (tCons (tVar 0) (tCons (tVar 1) tNil)))) (tDrop (tCall (sp_check_placeX w K) [] E0 (tCons (tVar 2) (tCons (tVar 3) tNil)))),
        pss_cons (ps_expr (pe_fn (ok_check_place E) (hr.mono (by decide)) (by rfl) (pa_cons (pv 0) (pa_cons (pv 1) pa_nil)))) (pss_one (ps_expr (pe_call F2 (hr.mono (by decide)) (by rfl) g2 k2 b2 .nil (passes_call (takes_of rfl rfl rfl rfl) fun _ _ _ _ z => z) (pa_cons (pv 2) (pa_cons (pv 3) pa_nil))))), ?_⟩
      exact ⟨_, rfl, _, rfl, a, A, i, rfl, hA, hi, _, rfl, _, rfl, b, x, B, rfl, hB, bad, rs⟩
theorem ok_is_alikeX {P : Program} {w : World} {K : PySem.W.Frag} {mg : Str → Option Value} {base : Heap} (E : Ctx w K mg) : DefOkX P w K mg base "is_alike" ["one", "place", "other", "another"] 8 (sp_is_alikeX w K) := by
  obtain ⟨fd, F⟩ := E.D_is_alike
  obtain ⟨f2, fd2, F2, b2, g2, k2⟩ := ok_check_pairX1 (P := P) (base := base) E
  refine ⟨_, fd, F.ok sc_is_alike (fun vs H Q E h => ?_) (fun cdv A outer s H vs Q E0 hr h => ?_), (FunD.bindsN F (fun _ _ _ _ _ _ us hl => match us, hl with | [_, _, _, _], _ => rfl)), E.g_is_alike, F.kp⟩
  · obtain ⟨a, b, p, q, x, A, B, rfl, _⟩ := h
    rfl
  · refine ⟨tSeq (tDrop (tCall (sp_check_pairX w K) [] E0 (tCons (tVar 0) (tCons (tVar 1) (tCons (tVar 2) (tCons (tVar 3) tNil)))))) tNever, pss_cons (ps_expr (pe_call F2 (hr.mono (by decide)) (by rfl) g2 k2 b2 .nil (passes_call (takes_of rfl rfl rfl rfl) fun _ _ _ _ z => z) (pa_cons (pv 0) (pa_cons (pv 1) (pa_cons (pv 2) (pa_cons (pv 3) pa_nil)))))) (pss_one ps_never), ?_⟩
    obtain ⟨a, b, p, q, x, A, B, rfl, hA, hB, bad, rs⟩ := h
    exact ⟨_, rfl, _, rfl, _, rfl, _, rfl, a, b, p, q, x, A, B, rfl, hA, hB, bad, rs⟩
end K28

set_option Elab.async false
set_option linter.all false
set_option maxRecDepth 100000
set_option maxHeartbeats 4000000
namespace K28
open PySem PySem.Spec PyProof.Rows L2
open Evl (Ex)

/-! ## the def that calls a lambda and keeps what it raised -/
def N_fault : List Str := ["_law_call", "_law_got", "e"]
theorem sc_fault : FnScope N_fault ["_law_call"] (defScope s__law_fault) := ⟨rfl, rfl, rfl, by decide +kernel, rfl, by decide +kernel, by decide +kernel⟩
theorem pss_len {X : Cx} {st : List Stmt} {t : TS} {n : Nat} (h : PSs X st t) (hn : X.N.length = n) : PSs X st fun D σ H => σ.length = n → t D σ H := ⟨fun pins s σ H D I k => h.run pins s σ H D I (k (by rw [← hn]; exact I.len))⟩
/-- the lambda raises BadPlace: its value in a new tuple -/
def TTf (K : PySem.W.Frag) : (XK → Hp → VK → Prop) → Hp → VK → Prop := fun tl H Q => tl (fun cls d H' => ∃ (v : V) (dd : Addr), cls = .ref (He.ga K "BadPlace") ∧ d = some dd ∧ H' dd = some (.xd [("value", v)]) ∧ ∀ T, H' T = none → Q (.ref T) (upd H' T (.tup [v]))) H fun _ H1 => ∃ v, (some (some V.non) : Option (Option V)) = some (some v) ∧ Q v H1
theorem gives_fault {X : Cx} (E : Ctx X.w X.K X.mg) {g : Addr} {cdg : Value} {q : Str} : LamX.GivesTo X N_fault "_law_fault" (defScope s__law_fault) g cdg (defBody s__law_fault) "_law_call" q (TTf X.K) := by
  intro f c' s H Q tl act hc h
  obtain ⟨x1, x2, x3, x4⟩ := bad_xf E
  refine ⟨_, pss_cons (ps_set (i := 1) sc_fault.nd rfl (Or.inl rfl) pe_non) (pss_cons (ps_try_as (X := (cxOf C8.CX0 X.prog X.w X.K X.mg X.base N_fault "_law_fault" (defScope s__law_fault) g cdg X.A X.stack s H C8.E0).nox) (i := 2) (c := .ref (He.ga X.K "BadPlace"))
      (tb := fun W D σ H => ∃ Ech : XK, (∀ cls d σ' H', Ech cls d H' → W cls d σ' H') ∧ σ[0]? = some (some (.ref f)) ∧ H c' = some (LamX.CodeO c' q) ∧ tl Ech H fun _ H1 => D.nx σ H1)
      (ts := fun a cls d D σ H => σ.length = 3 → tAsg (tTup (tCons (tXf a cls d (He.ga X.K "BadPlace") "value" (tVar 2)) tNil)) (gName 1) D σ H)
      rfl rfl sc_fault.nd rfl rfl ⟨rfl, by decide, .inl E.g_BadPlace⟩ LamX.takes0 (fun W pn xe tk _ => ?_) (fun a oe cls d pn hz hf => pss_len (pss_one (ps_set (i := 1) sc_fault.nd rfl (Or.inl rfl) (pe_tup (pa_cons (pe_xf x1 x2 hz hf (pv 2)) pa_nil)))) rfl)) (pss_one (ps_ret (pv 1)))), ?_⟩
  · refine ⟨fun pins s' σ H' D I h' => ?_⟩
    obtain ⟨Ech, hW, h1, h2, h3⟩ := h'
    exact (pss_one (ps_expr (pos := ⟨419, 8, 419, 19⟩) (act W pn xe Ech ⟨419, 8, 419, 17⟩ ⟨419, 8, 419, 19⟩ tk hW))).run pins s' σ H' D I ⟨h1, h2, h3⟩
  · refine ⟨fun cls d H' => ∃ (v : V) (dd : Addr), cls = .ref (He.ga X.K "BadPlace") ∧ d = some dd ∧ H' dd = some (.xd [("value", v)]) ∧ ∀ T, H' T = none → Q (.ref T) (upd H' T (.tup [v])), fun cls d σ' H' ⟨v, dd, e1, e2, e3, e4⟩ => ?_, rfl, hc, ?_⟩
    · subst e1 e2
      refine ⟨true, E.exm_BadPlace, fun _ a ha l3 => ?_, fun z => nomatch z⟩
      rw [List.length_set] at l3
      match σ', l3 with
      | [y0, y1, y2], _ =>
        refine ⟨_, rfl, rfl, rfl, dd, _, v, rfl, e3, rfl, (by show 1 ≤ sizeLine; decide), fun T hT => ⟨_, rfl, e4 T hT⟩⟩
    · exact h
end K28

set_option Elab.async false
set_option linter.all false
set_option maxRecDepth 100000
set_option maxHeartbeats 4000000
namespace K28
open PySem PySem.Spec PyProof.Rows L2
open Evl (Ex)

/-! ## plain: counts repeat behind the bound -/
theorem rest_dvd {l : List Cd} : ∀ {f : Nat}, f ∣ l.foldl Cd.rest f := by
  induction l with
  | nil => exact fun {f} => Nat.dvd_refl f
  | cons c l ih =>
    intro f
    refine Nat.dvd_trans ?_ (ih (f := c.rest f))
    cases c with
    | rs m r => exact Nat.dvd_lcm_left f _
    | le k | mo k | eq k | ne k => exact Nat.dvd_refl f
theorem rs_dvd {l : List Cd} {m r : Int} : ∀ {f : Nat}, Cd.rs m r ∈ l → m.toNat ∣ l.foldl Cd.rest f := by
  induction l with
  | nil => exact fun h => by cases h
  | cons c l ih =>
    intro f h
    rcases List.mem_cons.mp h with h | h
    · subst h
      exact Nat.dvd_trans (Nat.dvd_lcm_right f _) (rest_dvd (l := l))
    · exact ih h
theorem size_le {B : Bk} {c : Cd} (h : c ∈ B.conds) {x : Int} (e : c.size = some x) : x ≤ B.bound := maxOr_ge (List.mem_filterMap.mpr ⟨c, h, e⟩)
/-- n' does as n for the conditions of a book -/
def SameAt (B : Bk) (n n' : Int) : Prop := ∀ c ∈ B.conds, c.ho n' = c.ho n
theorem same_refl {B : Bk} {n : Int} : SameAt B n n := fun _ _ => rfl
theorem same_far {B : Bk} (ok : B.Ok) {b : Int} {R : Nat} (hb : B.bound ≤ b) (hR : B.rests ∣ R) {n n' : Int} (side : (b < n ∧ b < n') ∨ (n < -b ∧ n' < -b)) (md : ∃ k : Int, n = n' + R * k) : SameAt B n n' := by
  intro c hc
  have okc := conds_ok ok c hc
  cases c with
  | rs m r =>
    obtain ⟨o1, o2, o3, o4⟩ := okc
    have d : m.toNat ∣ R := Nat.dvd_trans (rs_dvd hc) hR
    obtain ⟨q, hq⟩ := d
    obtain ⟨k, hk⟩ := md
    have em : ((m.toNat : Nat) : Int) = m := by omega
    have e : n = n' + m * ((q : Int) * k) := by
      rw [hk, hq, Int.natCast_mul, em, Int.mul_assoc]
    show decide (n' % m = r) = decide (n % m = r)
    rw [e, Int.add_mul_emod_self_left]
  | le k =>
    have z := size_le hc (x := if k < 0 then -k else k) rfl
    have z2 : -b ≤ k ∧ k ≤ b := by
      split at z <;> omega
    exact decide_eq_decide.mpr (by omega)
  | mo k =>
    have z := size_le hc (x := if k < 0 then -k else k) rfl
    have z2 : -b ≤ k ∧ k ≤ b := by
      split at z <;> omega
    exact decide_eq_decide.mpr (by omega)
  | eq k =>
    have z := size_le hc (x := if k < 0 then -k else k) rfl
    have z2 : -b ≤ k ∧ k ≤ b := by
      split at z <;> omega
    exact decide_eq_decide.mpr (by omega)
  | ne k =>
    have z := size_le hc (x := if k < 0 then -k else k) rfl
    have z2 : -b ≤ k ∧ k ≤ b := by
      split at z <;> omega
    exact congrArg (fun x => !x) (decide_eq_decide.mpr (by omega))
/-- each count has one within the window that does the same, for both books -/
theorem window_rep {A B : Bk} (oA : A.Ok) (oB : B.Ok) {b : Int} {R : Nat} (b0 : 0 ≤ b) (ha : A.bound ≤ b) (hb : B.bound ≤ b) (R0 : 1 ≤ R) (rA : A.rests ∣ R) (rB : B.rests ∣ R) (n : Int) :
    ∃ n', -b - R ≤ n' ∧ n' ≤ b + R ∧ SameAt A n n' ∧ SameAt B n n' := by
  by_cases h1 : n ≤ b + R
  · by_cases h2 : -b - R ≤ n
    · exact ⟨n, h2, h1, same_refl, same_refl⟩
    · -- far below
      have e0 : (R : Int) ≠ 0 := by omega
      have m0 := Int.emod_nonneg (-b - 1 - n) e0
      have m1 := Int.emod_lt_of_pos (-b - 1 - n) (show (0 : Int) < R by omega)
      have md := Int.emod_add_mul_ediv (-b - 1 - n) R
      refine ⟨-b - 1 - (-b - 1 - n) % R, by omega, by omega, ?_, ?_⟩
      · exact same_far oA ha rA (.inr ⟨by omega, by omega⟩) ⟨-((-b - 1 - n) / R), by rw [Int.mul_neg]; omega⟩
      · exact same_far oB hb rB (.inr ⟨by omega, by omega⟩) ⟨-((-b - 1 - n) / R), by rw [Int.mul_neg]; omega⟩
  · have e0 : (R : Int) ≠ 0 := by omega
    have m0 := Int.emod_nonneg (n - b - 1) e0
    have m1 := Int.emod_lt_of_pos (n - b - 1) (show (0 : Int) < R by omega)
    have md := Int.emod_add_mul_ediv (n - b - 1) R
    refine ⟨b + 1 + (n - b - 1) % R, by omega, by omega, ?_, ?_⟩
    · exact same_far oA ha rA (.inl ⟨by omega, by omega⟩) ⟨(n - b - 1) / R, by omega⟩
    · exact same_far oB hb rB (.inl ⟨by omega, by omega⟩) ⟨(n - b - 1) / R, by omega⟩
theorem hoAll_same {B : Bk} {n n' : Int} (h : SameAt B n n') {cs : List Cd} (sub : ∀ c ∈ cs, c ∈ B.conds) : hoAll cs n' = hoAll cs n := by
  unfold hoAll
  induction cs with
  | nil => rfl
  | cons c cs ih =>
    rw [List.all_cons, List.all_cons, h c (sub c List.mem_cons_self), ih fun x hx => sub x (List.mem_cons_of_mem _ hx)]
theorem goal_same {B : Bk} {n n' : Int} (h : SameAt B n n') (p : Nat) : B.goal p n' = B.goal p n := by
  have e : ∀ g ∈ B.goals, g.at p n' = g.at p n := fun g hg => by
    unfold Gw.at
    rw [hoAll_same h fun c hc => List.mem_append.mpr (.inr (List.mem_flatMap.mpr ⟨g, hg, hc⟩))]
  unfold Bk.goal
  rw [Bool.eq_iff_iff, List.any_eq_true, List.any_eq_true]
  exact ⟨fun ⟨g, hg, q⟩ => ⟨g, hg, by rw [← e g hg]; exact q⟩, fun ⟨g, hg, q⟩ => ⟨g, hg, by rw [e g hg]; exact q⟩⟩
theorem opts_same {B : Bk} {n n' : Int} (h : SameAt B n n') (p : Nat) : B.opts p n' = B.opts p n := by
  have e : ∀ i, B.mvAt p n' i = B.mvAt p n i := fun i => by
    unfold Bk.mvAt
    cases q : B.moves[i]? with
    | none => rfl
    | some m =>
      show m.at p n' = m.at p n
      unfold Mv.at
      rw [hoAll_same h fun c hc => List.mem_append.mpr (.inl (List.mem_flatMap.mpr ⟨m, List.mem_of_getElem? q, hc⟩))]
  unfold Bk.opts Bk.opn
  rw [show B.mvAt p n' = B.mvAt p n from funext e]
/-- a likeness for all counts -/
def SimZ (A B : Bk) (R : Nat → Nat → Prop) : Prop := ∀ p q, R p q → p < A.sides.length ∧ q < B.sides.length ∧ A.sides[p]? = B.sides[q]? ∧ ∀ n, StepOk A B R p q n
def LkZ (A B : Bk) (p q : Nat) : Prop := ∃ R, SimZ A B R ∧ R p q
theorem step_same {A B : Bk} {n n' : Int} (hA : SameAt A n n') (hB : SameAt B n n') {R : Nat → Nat → Prop} {p q : Nat} (h : StepOk A B R p q n') : StepOk A B R p q n := by
  unfold StepOk at h ⊢
  rw [goal_same hA, goal_same hB, opts_same hA, opts_same hB] at h
  exact h
theorem mem_winI {A B : Bk} {n : Int} (h0 : -wB A B - (wR A B : Nat) ≤ n) (h1 : n ≤ wB A B + (wR A B : Nat)) : n ∈ winI A B := by
  unfold winI
  refine List.mem_map.mpr ⟨(n + wB A B + (wR A B : Nat)).toNat, List.mem_range.mpr (by omega), by omega⟩
theorem wB_le {A B : Bk} : A.bound ≤ wB A B ∧ B.bound ≤ wB A B := by
  unfold wB
  split <;> omega
theorem lk_iff {A B : Bk} (oA : A.Ok) (oB : B.Ok) (p q : Nat) : Lk A B p q ↔ LkZ A B p q := by
  constructor
  · rintro ⟨R, sim, r⟩
    refine ⟨R, fun p q r => ?_, r⟩
    obtain ⟨h1, h2, h3, h4⟩ := sim p q r
    refine ⟨h1, h2, h3, fun n => ?_⟩
    have z := pos_of_six (Nat.lcm_dvd (rests_six oA) (rests_six oB))
    obtain ⟨n', w1, w2, sA, sB⟩ := window_rep oA oB (wB_bd oA oB).1 wB_le.1 wB_le.2 z.1 (Nat.dvd_lcm_left A.rests B.rests) (Nat.dvd_lcm_right A.rests B.rests) n
    exact step_same sA sB (h4 n' (mem_winI w1 w2))
  · rintro ⟨R, sim, r⟩
    exact ⟨R, fun p q r => ⟨(sim p q r).1, (sim p q r).2.1, (sim p q r).2.2.1, fun n _ => (sim p q r).2.2.2 n⟩, r⟩
theorem step_symm {A B : Bk} {R : Nat → Nat → Prop} {p q : Nat} {n : Int} (h : StepOk A B R p q n) : StepOk B A (fun x y => R y x) q p n := by
  obtain ⟨h1, h2⟩ := h
  refine ⟨h1.symm, fun g => ?_⟩
  obtain ⟨a, b⟩ := h2 (by rw [h1]; exact g)
  exact ⟨b, a⟩
theorem lkz_symm {A B : Bk} {p q : Nat} (h : LkZ A B p q) : LkZ B A q p := by
  obtain ⟨R, sim, r⟩ := h
  refine ⟨fun x y => R y x, fun x y r => ?_, r⟩
  obtain ⟨h1, h2, h3, h4⟩ := sim y x r
  exact ⟨h2, h1, h3.symm, fun n => step_symm (h4 n)⟩
theorem lkz_refl {A : Bk} (ok : A.Ok) {p : Nat} (hp : p < A.sides.length) : LkZ A A p p := by
  refine ⟨fun x y => x = y ∧ x < A.sides.length, ?_, rfl, hp⟩
  rintro x y ⟨rfl, hx⟩
  exact ⟨hx, hx, rfl, fun n => ⟨rfl, fun _ => ⟨fun o ho => ⟨o, ho, rfl, rfl, opts_lt ok ho⟩, fun o ho => ⟨o, ho, rfl, rfl, opts_lt ok ho⟩⟩⟩⟩
theorem lkz_trans {A B C : Bk} {p q r : Nat} (h : LkZ A B p q) (k : LkZ B C q r) : LkZ A C p r := by
  obtain ⟨R, s1, r1⟩ := h
  obtain ⟨S, s2, r2⟩ := k
  refine ⟨fun x z => ∃ y, R x y ∧ S y z, ?_, q, r1, r2⟩
  rintro x z ⟨y, hxy, hyz⟩
  obtain ⟨a1, a2, a3, a4⟩ := s1 x y hxy
  obtain ⟨b1, b2, b3, b4⟩ := s2 y z hyz
  refine ⟨a1, b2, a3.trans b3, fun n => ?_⟩
  obtain ⟨g1, m1⟩ := a4 n
  obtain ⟨g2, m2⟩ := b4 n
  refine ⟨g1.trans g2, fun g => ?_⟩
  obtain ⟨u1, u2⟩ := m1 g
  obtain ⟨v1, v2⟩ := m2 (by rw [← g1]; exact g)
  refine ⟨fun o ho => ?_, fun o ho => ?_⟩
  · obtain ⟨o2, h2, e2, t2⟩ := u1 o ho
    obtain ⟨o3, h3, e3, t3⟩ := v1 o2 h2
    exact ⟨o3, h3, e3.trans e2, _, t2, t3⟩
  · obtain ⟨o2, h2, e2, t2⟩ := v2 o ho
    obtain ⟨o1, h1, e1, t1⟩ := u2 o2 h2
    exact ⟨o1, h1, e1.trans e2, _, t1, t2⟩
end K28

set_option Elab.async false
set_option linter.all false
set_option maxRecDepth 100000
set_option maxHeartbeats 4000000
namespace K28
open PySem PySem.Spec PyProof.Rows L2
open Evl (Ex)

/-! ## plain: laps only refine, and end -/
def gt (fs : List Int) (i : Nat) : Int := fs.getD i 0
/-- targets lie in -/
def Sy.In (S : Sy) : Prop := ∀ i, i < S.N → ∀ l, some l ∈ S.pats i → ∀ z ∈ l, S.off i + z.2 < S.N
theorem step_at {S : Sy} {fs : List Int} {i : Nat} (hi : i < S.N) : gt (S.step fs) i = ((S.idx fs i : Nat) : Int) := by
  unfold gt Sy.step
  rw [List.getD_eq_getElem?_getD, List.getElem?_map, List.getElem?_range hi]
  rfl
theorem it0_at {S : Sy} {i : Nat} (hi : i < S.N) : gt (S.it 0) i = 0 := by
  unfold gt
  show (List.replicate S.N (0 : Int)).getD i 0 = 0
  rw [List.getD_eq_getElem?_getD, List.getElem?_replicate, if_pos hi]
  rfl
theorem marks_at {S : Sy} {fs : List Int} {i : Nat} (hi : i < S.N) : (S.marks fs)[i]? = some (S.mark fs i) := by
  unfold Sy.marks
  rw [List.getElem?_map, List.getElem?_range hi]
  rfl
theorem idx_mark {S : Sy} {fs : List Int} {i : Nat} (hi : i < S.N) : S.mark fs (S.idx fs i) = S.mark fs i := by
  have hlt := S.idx_lt fs hi
  have hl : (S.marks fs).length = S.N := by unfold Sy.marks; rw [List.length_map, List.length_range]
  have h2 : S.idx fs i < (S.marks fs).length := by omega
  have hat : (S.marks fs)[S.idx fs i] = S.mark fs i := of_decide_eq_true (List.findIdx_getElem (p := fun x => decide (x = S.mark fs i)) (w := h2))
  have e := marks_at (fs := fs) hlt
  rw [List.getElem?_eq_getElem h2, hat] at e
  exact (Option.some.inj e).symm
theorem idx_le {S : Sy} {fs : List Int} {i : Nat} (hi : i < S.N) : S.idx fs i ≤ i := by
  refine Nat.le_of_not_lt fun c => ?_
  have hl : (S.marks fs).length = S.N := by unfold Sy.marks; rw [List.length_map, List.length_range]
  have nn := List.not_of_lt_findIdx (p := fun x => decide (x = S.mark fs i)) c
  have e := marks_at (fs := fs) hi
  rw [List.getElem?_eq_getElem (by omega)] at e
  exact Bool.false_ne_true (nn.symm.trans (decide_eq_true (Option.some.inj e)))
theorem idx_congr {S : Sy} {fs : List Int} {i j : Nat} (h : S.mark fs i = S.mark fs j) : S.idx fs i = S.idx fs j := by
  unfold Sy.idx
  rw [h]
theorem idx_iff {S : Sy} {fs : List Int} {i j : Nat} (hi : i < S.N) (hj : j < S.N) : S.idx fs i = S.idx fs j ↔ S.mark fs i = S.mark fs j :=
  ⟨fun h => by rw [← idx_mark hi, ← idx_mark hj, h], idx_congr⟩
/-- each class is named by its first place -/
def Led (S : Sy) (fs : List Int) : Prop := ∀ i, i < S.N → ∃ j : Nat, j ≤ i ∧ gt fs i = (j : Int) ∧ gt fs j = (j : Int)
theorem led_it {S : Sy} : ∀ k, Led S (S.it k)
  | 0 => fun i hi => ⟨0, Nat.zero_le _, it0_at hi, it0_at (by omega)⟩
  | k + 1 => fun i hi => by
    show ∃ j : Nat, j ≤ i ∧ gt (S.step (S.it k)) i = (j : Int) ∧ gt (S.step (S.it k)) j = (j : Int)
    refine ⟨S.idx (S.it k) i, idx_le hi, step_at hi, ?_⟩
    rw [step_at (S.idx_lt _ hi), idx_congr (idx_mark hi)]
/-- a row under finer classes tells the row under coarser ones -/
theorem row_coarse {f g : List Int} {o u : Nat} {N : Nat} (ref : ∀ i j, i < N → j < N → gt f i = gt f j → gt g i = gt g j) {a b : Option (List (Int × Nat))} (ha : ∀ l, a = some l → ∀ z ∈ l, o + z.2 < N) (hb : ∀ l, b = some l → ∀ z ∈ l, u + z.2 < N)
    (h : rowOf f o a = rowOf f u b) : rowOf g o a = rowOf g u b := by
  cases a with
  | none =>
    cases b with
    | none => rfl
    | some m => exact absurd h (by simp [rowOf])
  | some l =>
    cases b with
    | none => exact absurd h (by simp [rowOf])
    | some m =>
      have h2 := canon_eq.mp (Option.some.inj h)
      refine congrArg some (canon_eq.mpr fun x => ?_)
      constructor
      · intro hx
        obtain ⟨z, hz, rfl⟩ := List.mem_map.mp hx
        obtain ⟨y, hy, e⟩ := List.mem_map.mp ((h2 _).mp (List.mem_map.mpr ⟨z, hz, rfl⟩))
        have e1 : y.1 = z.1 := congrArg (·.1) e
        have e2 : gt f (u + y.2) = gt f (o + z.2) := congrArg (·.2) e
        refine List.mem_map.mpr ⟨y, hy, Prod.ext e1 ?_⟩
        exact ref _ _ (hb m rfl y hy) (ha l rfl z hz) e2
      · intro hx
        obtain ⟨z, hz, rfl⟩ := List.mem_map.mp hx
        obtain ⟨y, hy, e⟩ := List.mem_map.mp ((h2 _).mpr (List.mem_map.mpr ⟨z, hz, rfl⟩))
        have e1 : y.1 = z.1 := congrArg (·.1) e
        have e2 : gt f (o + y.2) = gt f (u + z.2) := congrArg (·.2) e
        refine List.mem_map.mpr ⟨y, hy, Prod.ext e1 ?_⟩
        exact ref _ _ (ha l rfl y hy) (hb m rfl z hz) e2
theorem map_eq_iff {α β γ : Type} {f : α → γ} {g : β → γ} : ∀ {l : List α} {m : List β}, l.map f = m.map g ↔ l.length = m.length ∧ ∀ (i : Nat) (x : α) (y : β), l[i]? = some x → m[i]? = some y → f x = g y
  | [], [] => ⟨fun _ => ⟨rfl, fun _ _ _ h => by simp at h⟩, fun _ => rfl⟩
  | [], b :: m => ⟨fun h => by simp at h, fun h => absurd h.1 (by simp)⟩
  | a :: l, [] => ⟨fun h => by simp at h, fun h => absurd h.1 (by simp)⟩
  | a :: l, b :: m => by
    rw [List.map_cons, List.map_cons, List.cons.injEq, map_eq_iff (l := l) (m := m)]
    constructor
    · rintro ⟨h1, h2, h3⟩
      refine ⟨by simp [h2], fun i x y hx hy => ?_⟩
      cases i with
      | zero => cases hx; cases hy; exact h1
      | succ i => exact h3 i x y hx hy
    · rintro ⟨h1, h2⟩
      exact ⟨h2 0 a b rfl rfl, by simpa using h1, fun i x y hx hy => h2 (i + 1) x y hx hy⟩
theorem mark_coarse {S : Sy} (ok : S.In) {f g : List Int} (ref : ∀ i j, i < S.N → j < S.N → gt f i = gt f j → gt g i = gt g j) {i j : Nat} (hi : i < S.N) (hj : j < S.N) (h : S.mark f i = S.mark f j) : S.mark g i = S.mark g j := by
  have h1 : S.side i = S.side j := congrArg (·.1) h
  have h2 : (S.pats i).map (rowOf f (S.off i)) = (S.pats j).map (rowOf f (S.off j)) := congrArg (·.2) h
  obtain ⟨h3, h4⟩ := map_eq_iff.mp h2
  refine Prod.ext h1 (map_eq_iff.mpr ⟨h3, fun n x y hx hy => ?_⟩)
  exact row_coarse ref (fun l e z hz => ok i hi l (by rw [← e]; exact List.mem_of_getElem? hx) z hz) (fun l e z hz => ok j hj l (by rw [← e]; exact List.mem_of_getElem? hy) z hz) (h4 n x y hx hy)
theorem it_refines {S : Sy} (ok : S.In) : ∀ k i j, i < S.N → j < S.N → gt (S.it (k + 1)) i = gt (S.it (k + 1)) j → gt (S.it k) i = gt (S.it k) j
  | 0, i, j, hi, hj, _ => by rw [it0_at hi, it0_at hj]
  | k + 1, i, j, hi, hj, h => by
    have h2 : gt (S.step (S.it (k + 1))) i = gt (S.step (S.it (k + 1))) j := h
    rw [step_at hi, step_at hj] at h2
    have m1 := (idx_iff hi hj).mp (Int.ofNat.inj h2)
    have m2 := mark_coarse ok (it_refines ok k) hi hj m1
    show gt (S.step (S.it k)) i = gt (S.step (S.it k)) j
    rw [step_at hi, step_at hj, idx_congr m2]
def leads (S : Sy) (k : Nat) : Nat := (List.range S.N).countP fun i => decide (gt (S.it k) i = (i : Int))
theorem lead_up {S : Sy} (ok : S.In) {k i : Nat} (hi : i < S.N) (h : gt (S.it k) i = (i : Int)) : gt (S.it (k + 1)) i = (i : Int) := by
  obtain ⟨j, j1, j2, j3⟩ := led_it (S := S) (k + 1) i hi
  have e := it_refines ok k i j hi (by omega) (by rw [j2, j3])
  obtain ⟨m, m1, m2, m3⟩ := led_it (S := S) k j (by omega)
  have : i = m := by
    have : (i : Int) = m := by rw [← h, e, m2]
    omega
  rw [j2]
  omega
theorem list_ext_gt {f g : List Int} (l : f.length = g.length) (h : ∀ i, i < f.length → gt f i = gt g i) : f = g := by
  refine List.ext_getElem l fun i h1 h2 => ?_
  have := h i h1
  unfold gt at this
  rw [List.getD_eq_getElem?_getD, List.getD_eq_getElem?_getD, List.getElem?_eq_getElem h1, List.getElem?_eq_getElem h2] at this
  exact this
theorem stable_of {S : Sy} (ok : S.In) {k : Nat} (h : ∀ i, i < S.N → gt (S.it (k + 1)) i = (i : Int) → gt (S.it k) i = (i : Int)) : S.step (S.it k) = S.it k := by
  refine list_ext_gt ((S.it_len (k + 1)).trans (S.it_len k).symm) fun i hi => ?_
  have hi2 : i < S.N := by rw [← S.it_len (k + 1)]; exact hi
  show gt (S.it (k + 1)) i = _
  obtain ⟨j, j1, j2, j3⟩ := led_it (S := S) (k + 1) i hi2
  have a := h j (by omega) j3
  have b := it_refines ok k i j hi2 (by omega) (by rw [j2, j3])
  rw [j2, b, a]
theorem countP_lt {p q : Nat → Bool} : ∀ {l : List Nat}, (∀ i ∈ l, p i = true → q i = true) → (∃ i ∈ l, q i = true ∧ p i = false) → l.countP p < l.countP q
  | [], _, h => by obtain ⟨i, hi, _⟩ := h; cases hi
  | x :: l, hs, h => by
    have hs2 : ∀ i ∈ l, p i = true → q i = true := fun i hi => hs i (List.mem_cons_of_mem _ hi)
    have le := List.countP_mono_left (l := l) hs2
    rw [List.countP_cons, List.countP_cons]
    have hx := hs x List.mem_cons_self
    obtain ⟨i, hi, q1, q2⟩ := h
    rcases List.mem_cons.mp hi with rfl | hi
    · rw [q1, q2]
      simp
      omega
    · have lt := countP_lt hs2 ⟨i, hi, q1, q2⟩
      by_cases c : p x = true
      · rw [c, hx c]
        simp
        omega
      · rw [if_neg c]
        omega
theorem leads_grow {S : Sy} (ok : S.In) : ∀ k, (∃ j, j ≤ k ∧ S.step (S.it j) = S.it j) ∨ k + 1 ≤ leads S (k + 1)
  | 0 => by
    by_cases c : ∃ i, i < S.N ∧ gt (S.it 1) i = (i : Int) ∧ ¬ gt (S.it 0) i = (i : Int)
    · refine .inr ?_
      obtain ⟨i, h1, h2, h3⟩ := c
      have := countP_lt (p := fun i => decide (gt (S.it 0) i = (i : Int))) (q := fun i => decide (gt (S.it 1) i = (i : Int))) (l := List.range S.N) (fun i hi h => decide_eq_true (lead_up ok (List.mem_range.mp hi) (of_decide_eq_true h))) ⟨i, List.mem_range.mpr h1, decide_eq_true h2, decide_eq_false h3⟩
      have e : leads S 0 < leads S 1 := this
      show 1 ≤ leads S 1
      omega
    · exact .inl ⟨0, Nat.le_refl _, stable_of ok fun i hi h => Decidable.byContradiction fun n => c ⟨i, hi, h, n⟩⟩
  | k + 1 => by
    rcases leads_grow ok k with ⟨j, h1, h2⟩ | ih
    · exact .inl ⟨j, by omega, h2⟩
    by_cases c : ∃ i, i < S.N ∧ gt (S.it (k + 2)) i = (i : Int) ∧ ¬ gt (S.it (k + 1)) i = (i : Int)
    · refine .inr ?_
      obtain ⟨i, h1, h2, h3⟩ := c
      have := countP_lt (p := fun i => decide (gt (S.it (k + 1)) i = (i : Int))) (q := fun i => decide (gt (S.it (k + 2)) i = (i : Int))) (l := List.range S.N) (fun i hi h => decide_eq_true (lead_up ok (List.mem_range.mp hi) (of_decide_eq_true h))) ⟨i, List.mem_range.mpr h1, decide_eq_true h2, decide_eq_false h3⟩
      have e : leads S (k + 1) < leads S (k + 2) := this
      show k + 1 + 1 ≤ leads S (k + 2)
      omega
    · exact .inl ⟨k + 1, Nat.le_refl _, stable_of ok fun i hi h => Decidable.byContradiction fun n => c ⟨i, hi, h, n⟩⟩
theorem stay {S : Sy} {j : Nat} (h : S.step (S.it j) = S.it j) : ∀ d, S.it (j + d) = S.it j
  | 0 => rfl
  | d + 1 => by
    show S.step (S.it (j + d)) = _
    rw [stay h d, h]
theorem cls_stable {S : Sy} (ok : S.In) {fs : List Int} (h : ClsOf S fs) : (∃ k, fs = S.it k) ∧ S.step fs = fs := by
  obtain ⟨k, rfl, h⟩ := h
  refine ⟨⟨k, rfl⟩, ?_⟩
  rcases h with h | h
  · exact h
  · subst h
    rcases leads_grow ok (S.N) with ⟨j, h1, h2⟩ | ih
    · have e := stay h2 (S.N + 1 - j)
      rw [show j + (S.N + 1 - j) = S.N + 1 by omega] at e
      rw [e, h2]
    · have : leads S (S.N + 1) ≤ S.N := by
        have z := List.countP_le_length (p := fun i => decide (gt (S.it (S.N + 1)) i = (i : Int))) (l := List.range S.N)
        rw [List.length_range] at z
        exact z
      omega
end K28

set_option Elab.async false
set_option linter.all false
set_option maxRecDepth 100000
set_option maxHeartbeats 4000000
namespace K28
open PySem PySem.Spec PyProof.Rows L2
open Evl (Ex)

/-! ## plain: the law's classes are the likeness -/
/-- X is one of the two books, its places from o on -/
def Pt (A B X : Bk) (o : Nat) : Prop := (X = A ∧ o = 0) ∨ (X = B ∧ o = A.sides.length)
section
variable {A B X Y : Bk} {o u : Nat} {r : Nat}
theorem Pt.ok (oA : A.Ok) (oB : B.Ok) (h : Pt A B X o) : X.Ok := by
  rcases h with ⟨rfl, _⟩ | ⟨rfl, _⟩
  · exact oA
  · exact oB
theorem Pt.lt (h : Pt A B X o) {p : Nat} (hp : p < X.sides.length) : o + p < (lawSy A B r).N := by
  show o + p < A.sides.length + B.sides.length
  rcases h with ⟨rfl, rfl⟩ | ⟨rfl, rfl⟩ <;> omega
theorem Pt.side (h : Pt A B X o) {p : Nat} (hp : p < X.sides.length) : some ((lawSy A B r).side (o + p)) = X.sides[p]? := by
  show some ((A.sides ++ B.sides).getD (o + p) 0) = _
  rw [List.getD_eq_getElem?_getD]
  rcases h with ⟨rfl, rfl⟩ | ⟨rfl, rfl⟩
  · rw [Nat.zero_add, List.getElem?_append_left hp, List.getElem?_eq_getElem hp]
    rfl
  · rw [List.getElem?_append_right (by omega), show A.sides.length + p - A.sides.length = p by omega, List.getElem?_eq_getElem hp]
    rfl
theorem Pt.off (h : Pt A B X o) {p : Nat} (hp : p < X.sides.length) : (lawSy A B r).off (o + p) = o := by
  show (if o + p < A.sides.length then 0 else A.sides.length) = o
  rcases h with ⟨rfl, rfl⟩ | ⟨rfl, rfl⟩
  · rw [if_pos (by omega)]
  · rw [if_neg (by omega)]
theorem Pt.pats (h : Pt A B X o) {p : Nat} (hp : p < X.sides.length) : (lawSy A B r).pats (o + p) = (winR (wB A B) r).map (Pat X p) := by
  show (winR (wB A B) r).map (fun n => if o + p < A.sides.length then Pat A (o + p) n else Pat B (o + p - A.sides.length) n) = _
  rcases h with ⟨rfl, rfl⟩ | ⟨rfl, rfl⟩
  · refine List.map_congr_left fun n _ => ?_
    rw [if_pos (by omega), Nat.zero_add]
  · refine List.map_congr_left fun n _ => ?_
    rw [if_neg (by omega), show A.sides.length + p - A.sides.length = p by omega]
end
theorem mem_winR {b : Int} {r : Nat} {n : Int} : n ∈ winR b r ↔ -b - r ≤ n ∧ n ≤ b + r := by
  unfold winR
  rw [List.mem_map]
  constructor
  · rintro ⟨i, hi, rfl⟩
    have := List.mem_range.mp hi
    omega
  · intro h
    exact ⟨(n + b + r).toNat, List.mem_range.mpr (by omega), by omega⟩
theorem row_step {X Y : Bk} {o u : Nat} {fs : List Int} {p q : Nat} {n : Int} : rowOf fs o (Pat X p n) = rowOf fs u (Pat Y q n) ↔ StepOk X Y (fun a b => gt fs (o + a) = gt fs (u + b)) p q n := by
  unfold StepOk Pat
  cases g : X.goal p n with
  | true =>
    cases h : Y.goal q n with
    | true =>
      simp
      rfl
    | false => simp [rowOf]
  | false =>
    cases h : Y.goal q n with
    | true => simp [rowOf]
    | false =>
      have e : (some (canonP ((((X.opts p n).map fun o => (o.2.1, o.2.2))).map fun z => (z.1, fs.getD (o + z.2) 0))) = some (canonP ((((Y.opts q n).map fun o => (o.2.1, o.2.2))).map fun z => (z.1, fs.getD (u + z.2) 0)))) ↔ ((∀ s ∈ X.opts p n, ∃ t ∈ Y.opts q n, t.2.1 = s.2.1 ∧ gt fs (o + s.2.2) = gt fs (u + t.2.2)) ∧ ∀ t ∈ Y.opts q n, ∃ s ∈ X.opts p n, s.2.1 = t.2.1 ∧ gt fs (o + s.2.2) = gt fs (u + t.2.2)) := by
        rw [Option.some.injEq, canon_eq]
        have m1 : ∀ (Z : Bk) (w a : Nat) (x : Int × Int), x ∈ (((Z.opts a n).map fun o => (o.2.1, o.2.2))).map (fun z => (z.1, fs.getD (w + z.2) 0)) ↔ ∃ s ∈ Z.opts a n, x = (s.2.1, gt fs (w + s.2.2)) := by
          intro Z w a x
          rw [List.map_map, List.mem_map]
          exact ⟨fun ⟨s, h1, h2⟩ => ⟨s, h1, h2.symm⟩, fun ⟨s, h1, h2⟩ => ⟨s, h1, h2.symm⟩⟩
        constructor
        · intro h
          refine ⟨fun s hs => ?_, fun t ht => ?_⟩
          · obtain ⟨t, ht, e⟩ := (m1 Y u q _).mp ((h _).mp ((m1 X o p _).mpr ⟨s, hs, rfl⟩))
            exact ⟨t, ht, (congrArg (·.1) e).symm, congrArg (·.2) e⟩
          · obtain ⟨s, hs, e⟩ := (m1 X o p _).mp ((h _).mpr ((m1 Y u q _).mpr ⟨t, ht, rfl⟩))
            exact ⟨s, hs, (congrArg (·.1) e).symm, (congrArg (·.2) e).symm⟩
        · rintro ⟨h1, h2⟩ x
          rw [m1, m1]
          constructor
          · rintro ⟨s, hs, rfl⟩
            obtain ⟨t, ht, e1, e2⟩ := h1 s hs
            exact ⟨t, ht, Prod.ext e1.symm e2⟩
          · rintro ⟨t, ht, rfl⟩
            obtain ⟨s, hs, e1, e2⟩ := h2 t ht
            exact ⟨s, hs, Prod.ext e1.symm e2.symm⟩
      have c1 : (if false = true then (none : Option (List (Int × Nat))) else some ((X.opts p n).map fun o => (o.2.1, o.2.2))) = some ((X.opts p n).map fun o => (o.2.1, o.2.2)) := if_neg Bool.false_ne_true
      have c2 : (if false = true then (none : Option (List (Int × Nat))) else some ((Y.opts q n).map fun o => (o.2.1, o.2.2))) = some ((Y.opts q n).map fun o => (o.2.1, o.2.2)) := if_neg Bool.false_ne_true
      rw [c1, c2]
      exact e.trans ⟨fun h => ⟨rfl, fun _ => h⟩, fun h => h.2 rfl⟩
theorem mark_iff {A B X Y : Bk} {o u r : Nat} (hX : Pt A B X o) (hY : Pt A B Y u) {p q : Nat} (hp : p < X.sides.length) (hq : q < Y.sides.length) {fs : List Int} :
    (lawSy A B r).mark fs (o + p) = (lawSy A B r).mark fs (u + q) ↔ X.sides[p]? = Y.sides[q]? ∧ ∀ n ∈ winR (wB A B) r, StepOk X Y (fun a b => gt fs (o + a) = gt fs (u + b)) p q n := by
  unfold Sy.mark markOf
  rw [hX.off hp, hY.off hq, hX.pats hp, hY.pats hq, ← hX.side (r := r) hp, ← hY.side (r := r) hq, List.map_map, List.map_map]
  constructor
  · intro h
    have h1 := congrArg (·.1) h
    have h2 := congrArg (·.2) h
    exact ⟨congrArg some h1, fun n hn => row_step.mp (List.map_inj_left.mp h2 n hn)⟩
  · rintro ⟨h1, h2⟩
    exact Prod.ext (Option.some.inj h1) (List.map_inj_left.mpr fun n hn => row_step.mpr (h2 n hn))
/-- like places stay in one class at each lap -/
theorem lk_it {A B X Y : Bk} (oA : A.Ok) (oB : B.Ok) {o u r : Nat} (hX : Pt A B X o) (hY : Pt A B Y u) : ∀ (k : Nat) {p q : Nat}, LkZ X Y p q → gt ((lawSy A B r).it k) (o + p) = gt ((lawSy A B r).it k) (u + q)
  | 0, p, q, ⟨R, sim, h⟩ => by
    obtain ⟨a, b, _, _⟩ := sim p q h
    rw [it0_at (hX.lt a), it0_at (hY.lt b)]
  | k + 1, p, q, ⟨R, sim, h⟩ => by
    obtain ⟨a, b, c, d⟩ := sim p q h
    show gt ((lawSy A B r).step ((lawSy A B r).it k)) _ = gt ((lawSy A B r).step ((lawSy A B r).it k)) _
    rw [step_at (hX.lt a), step_at (hY.lt b)]
    refine congrArg (fun x : Nat => (x : Int)) (idx_congr ((mark_iff hX hY a b).mpr ⟨c, fun n _ => ?_⟩))
    obtain ⟨g1, g2⟩ := d n
    refine ⟨g1, fun g => ?_⟩
    obtain ⟨m1, m2⟩ := g2 g
    refine ⟨fun s hs => ?_, fun t ht => ?_⟩
    · obtain ⟨t, ht, e1, e2⟩ := m1 s hs
      exact ⟨t, ht, e1, lk_it oA oB hX hY k ⟨R, sim, e2⟩⟩
    · obtain ⟨s, hs, e1, e2⟩ := m2 t ht
      exact ⟨s, hs, e1, lk_it oA oB hX hY k ⟨R, sim, e2⟩⟩
theorem lawSy_in {A B : Bk} (oA : A.Ok) (oB : B.Ok) {r : Nat} : (lawSy A B r).In := fun i hi l hl z hz => by
  have hl2 : some l ∈ (winR (wB A B) r).map fun n => if i < A.sides.length then Pat A i n else Pat B (i - A.sides.length) n := hl
  obtain ⟨n, _, e⟩ := List.mem_map.mp hl2
  show (if i < A.sides.length then 0 else A.sides.length) + z.2 < A.sides.length + B.sides.length
  by_cases c : i < A.sides.length
  · rw [if_pos c] at e ⊢
    have := (pat_ok oA e.symm).2 z hz
    omega
  · rw [if_neg c] at e ⊢
    have := (pat_ok oB e.symm).2 z hz
    omega
theorem cls_lk {A B X Y : Bk} (oA : A.Ok) (oB : B.Ok) {o u : Nat} (hX : Pt A B X o) (hY : Pt A B Y u) {fs : List Int} (h : ClsOk A B fs) {p q : Nat} (hp : p < X.sides.length) (hq : q < Y.sides.length) : gt fs (o + p) = gt fs (u + q) ↔ LkZ X Y p q := by
  obtain ⟨r, rA, rB, r1, cl⟩ := h
  constructor
  · intro e
    obtain ⟨_, st⟩ := cls_stable (lawSy_in oA oB) cl
    refine ⟨fun a b => a < X.sides.length ∧ b < Y.sides.length ∧ gt fs (o + a) = gt fs (u + b), fun a b h => ?_, hp, hq, e⟩
    obtain ⟨ha, hb, e2⟩ := h
    rw [← st, step_at (hX.lt ha), step_at (hY.lt hb)] at e2
    obtain ⟨c, d⟩ := (mark_iff hX hY ha hb).mp ((idx_iff (hX.lt ha) (hY.lt hb)).mp (Int.ofNat.inj e2))
    refine ⟨ha, hb, c, fun n => ?_⟩
    obtain ⟨n', w1, w2, sA, sB⟩ := window_rep oA oB (wB_bd oA oB).1 wB_le.1 wB_le.2 r1 rA rB n
    have sX : SameAt X n n' := by
      rcases hX with ⟨rfl, _⟩ | ⟨rfl, _⟩
      · exact sA
      · exact sB
    have sY : SameAt Y n n' := by
      rcases hY with ⟨rfl, _⟩ | ⟨rfl, _⟩
      · exact sA
      · exact sB
    obtain ⟨g1, g2⟩ := step_same sX sY (d n' (mem_winR.mpr ⟨w1, w2⟩))
    refine ⟨g1, fun g => ?_⟩
    obtain ⟨m1, m2⟩ := g2 g
    refine ⟨fun s hs => ?_, fun t ht => ?_⟩
    · obtain ⟨t, ht, e1, e2⟩ := m1 s hs
      exact ⟨t, ht, e1, opts_lt (hX.ok oA oB) hs, opts_lt (hY.ok oA oB) ht, e2⟩
    · obtain ⟨s, hs, e1, e2⟩ := m2 t ht
      exact ⟨s, hs, e1, opts_lt (hX.ok oA oB) hs, opts_lt (hY.ok oA oB) ht, e2⟩
  · intro hl
    obtain ⟨k, rfl, _⟩ := cl
    exact lk_it oA oB hX hY k hl
end K28

set_option Elab.async false
set_option linter.all false
set_option maxRecDepth 100000
set_option maxHeartbeats 4000000
namespace K28
open PySem PySem.Spec PyProof.Rows L2
open Evl (Ex)

/-! ## plain: numbers, counts, turned pairs -/
/-- what the numbers of a list keep -/
structure NbI (l : List Int) (st : List Int × List Int) : Prop where
  mem : ∀ x, x ∈ st.1 ↔ x ∈ l
  len : st.2.length = l.length
  at_ : ∀ i, i < l.length → gt st.2 i = ((st.1.findIdx fun x => decide (x = gt l i) : Nat) : Int)
  lt : ∀ x ∈ st.2, 0 ≤ x ∧ x < st.1.length
  top : st.1.length = 0 ∨ ((st.1.length : Int) - 1) ∈ st.2
theorem gt_lt {l : List Int} {i : Nat} (h : i < l.length) : gt l i = l[i] := by
  unfold gt
  rw [List.getD_eq_getElem?_getD, List.getElem?_eq_getElem h]
  rfl
theorem gt_app {l m : List Int} {i : Nat} (h : i < l.length) : gt (l ++ m) i = gt l i := by
  unfold gt
  rw [List.getD_eq_getElem?_getD, List.getD_eq_getElem?_getD, List.getElem?_append_left h]
theorem gt_snoc {l : List Int} {x : Int} : gt (l ++ [x]) l.length = x := by
  unfold gt
  rw [List.getD_eq_getElem?_getD, List.getElem?_concat_length]
  rfl
theorem find_app {l m : List Int} {f : Int} (h : f ∈ l) : ((l ++ m).findIdx fun x => decide (x = f)) = l.findIdx fun x => decide (x = f) := by
  have hlt : (l.findIdx fun x => decide (x = f)) < l.length := List.findIdx_lt_length_of_exists ⟨f, h, decide_eq_true rfl⟩
  rw [List.findIdx_append, if_pos hlt]
theorem find_new {l : List Int} {f : Int} (h : f ∉ l) : ((l ++ [f]).findIdx fun x => decide (x = f)) = l.length := by
  have e : (l.findIdx fun x => decide (x = f)) = l.length := List.findIdx_eq_length.mpr fun x hx => decide_eq_false fun z => h (by rw [← z]; exact hx)
  rw [List.findIdx_append, e, if_neg (Nat.lt_irrefl _)]
  simp
theorem nb_snoc {l : List Int} {st : List Int × List Int} (I : NbI l st) (f : Int) : NbI (l ++ [f]) (nbr [f] st) := by
  by_cases c : f ∈ st.1
  · have eN : nbr [f] st = (st.1, st.2 ++ [((st.1.findIdx fun x => decide (x = f) : Nat) : Int)]) := if_pos c
    rw [eN]
    have hlt : (st.1.findIdx fun x => decide (x = f)) < st.1.length := List.findIdx_lt_length_of_exists ⟨f, c, decide_eq_true rfl⟩
    refine ⟨fun x => ?_, ?_, fun i hi => ?_, fun x hx => ?_, ?_⟩
    · rw [I.mem, List.mem_append, List.mem_singleton]
      exact ⟨.inl, fun h => h.elim id fun z => by rw [z]; exact (I.mem f).mp c⟩
    · rw [List.length_append, List.length_append, I.len]
      rfl
    · rw [List.length_append, List.length_singleton] at hi
      by_cases q : i < l.length
      · rw [gt_app q, gt_app (by rw [I.len]; exact q)]
        exact I.at_ i q
      · have e : i = l.length := by omega
        subst e
        rw [gt_snoc]
        show gt (st.2 ++ _) l.length = _
        rw [← I.len, gt_snoc]
    · rcases List.mem_append.mp hx with h | h
      · exact I.lt x h
      · have h2 := List.mem_singleton.mp h
        have l2 : x < ((st.1.length : Nat) : Int) := by omega
        exact ⟨by omega, l2⟩
    · rcases I.top with h | h
      · exact .inl h
      · exact .inr (List.mem_append.mpr (.inl h))
  · have eN : nbr [f] st = (st.1 ++ [f], st.2 ++ [((st.1.length : Nat) : Int)]) := if_neg c
    rw [eN]
    have el : (((st.1 ++ [f]).length : Nat) : Int) = st.1.length + 1 := by rw [List.length_append]; rfl
    refine ⟨fun x => ?_, ?_, fun i hi => ?_, fun x hx => ?_, ?_⟩
    · rw [List.mem_append, List.mem_append, I.mem]
    · rw [List.length_append, List.length_append, I.len]
      rfl
    · rw [List.length_append, List.length_singleton] at hi
      by_cases q : i < l.length
      · rw [gt_app q, gt_app (by rw [I.len]; exact q), find_app ((I.mem _).mpr (by rw [gt_lt q]; exact List.getElem_mem q))]
        exact I.at_ i q
      · have e : i = l.length := by omega
        subst e
        rw [gt_snoc, find_new c]
        show gt (st.2 ++ _) l.length = _
        rw [← I.len, gt_snoc]
    · show 0 ≤ x ∧ x < (((st.1 ++ [f]).length : Nat) : Int)
      rw [el]
      rcases List.mem_append.mp hx with h | h
      · have := I.lt x h
        omega
      · have h2 := List.mem_singleton.mp h
        omega
    · refine .inr ?_
      show (((st.1 ++ [f]).length : Nat) : Int) - 1 ∈ _
      rw [el, show (st.1.length : Int) + 1 - 1 = st.1.length by omega]
      exact List.mem_append.mpr (.inr (List.mem_singleton.mpr rfl))
theorem nb_nil : NbI [] ([], []) := ⟨fun _ => Iff.rfl, rfl, fun i hi => absurd hi (by simp), fun x hx => (by cases hx), .inl rfl⟩
theorem nb_take (l : List Int) : ∀ k, k ≤ l.length → NbI (l.take k) (nbr (l.take k) ([], []))
  | 0, _ => nb_nil
  | k + 1, h => by
    have tk : l.take (k + 1) = l.take k ++ [l[k]] := by
      rw [List.take_succ, List.getElem?_eq_getElem (by omega)]
      rfl
    rw [tk, nbr_snoc]
    exact nb_snoc (nb_take l k (by omega)) _
theorem nb_max {l : List Int} {st : List Int × List Int} (I : NbI l st) : maxOr (-1) st.2 + 1 = st.1.length := by
  have h1 : maxOr (-1) st.2 ≤ (st.1.length : Int) - 1 := maxOr_le (by omega) fun x hx => by have := I.lt x hx; omega
  rcases I.top with h | h
  · have e : st.2 = [] := by
      cases q : st.2 with
      | nil => rfl
      | cons x m =>
        have := I.lt x (by rw [q]; exact List.mem_cons_self)
        omega
    rw [e, h]
    rfl
  · have h2 : (st.1.length : Int) - 1 ≤ maxOr (-1) st.2 := maxOr_ge h
    omega
theorem gt_take {l : List Int} {k i : Nat} (h : i < k) : gt (l.take k) i = gt l i := by
  unfold gt
  rw [List.getD_eq_getElem?_getD, List.getD_eq_getElem?_getD, List.getElem?_take, if_pos h]
theorem cnum_nbr {f : Nat → Nat → Bool} {l : List Int} : ∀ k, k ≤ l.length → (∀ i j, i < k → j < k → (f i j = true ↔ gt l i = gt l j)) → cnum f k = (nbr (l.take k) ([], [])).2
  | 0, _, _ => rfl
  | k + 1, h, hf => by
    have tk : l.take (k + 1) = l.take k ++ [gt l k] := by
      rw [List.take_succ, List.getElem?_eq_getElem (by omega), gt_lt (by omega)]
      rfl
    have ih := cnum_nbr k (by omega) fun i j hi hj => hf i j (by omega) (by omega)
    have I := nb_take l k (by omega)
    have lk : (l.take k).length = k := by rw [List.length_take]; omega
    rw [tk, nbr_snoc]
    generalize nbr (l.take k) ([], []) = st at ih I
    have memk : gt l k ∈ l.take k ↔ ∃ o, o < k ∧ f o k = true := by
      rw [List.mem_iff_getElem]
      constructor
      · rintro ⟨o, ho, e⟩
        rw [lk] at ho
        refine ⟨o, ho, (hf o k (by omega) (by omega)).mpr ?_⟩
        rw [← e, List.getElem_take, gt_lt (by omega)]
      · rintro ⟨o, ho, e⟩
        refine ⟨o, by omega, ?_⟩
        rw [← (hf o k (by omega) (by omega)).mp e, List.getElem_take, gt_lt (by omega)]
    cases q : (List.range k).filter (fun o => f o k) with
    | nil =>
      have c : gt l k ∉ st.1 := fun z => by
        obtain ⟨o, ho, e⟩ := memk.mp ((I.mem _).mp z)
        have : o ∈ (List.range k).filter (fun o => f o k) := List.mem_filter.mpr ⟨List.mem_range.mpr ho, e⟩
        rw [q] at this
        cases this
      have eN : nbr [gt l k] st = (st.1 ++ [gt l k], st.2 ++ [((st.1.length : Nat) : Int)]) := if_neg c
      rw [cnum_nil q, eN, ih, nb_max I]
    | cons o r =>
      have ho : o ∈ (List.range k).filter (fun o => f o k) := by rw [q]; exact List.mem_cons_self
      obtain ⟨h1, h2⟩ := List.mem_filter.mp ho
      have h1 := List.mem_range.mp h1
      have e := (hf o k (by omega) (by omega)).mp h2
      have c : gt l k ∈ st.1 := (I.mem _).mpr (memk.mpr ⟨o, h1, h2⟩)
      have eN : nbr [gt l k] st = (st.1, st.2 ++ [((st.1.findIdx fun x => decide (x = gt l k) : Nat) : Int)]) := if_pos c
      have a := I.at_ o (by omega)
      rw [gt_take h1, e] at a
      rw [cnum_cons q, eN, ih]
      show st.2 ++ [gt st.2 o] = _
      rw [a]
theorem nbrs_eq {l : List Int} {i j : Nat} (hi : i < l.length) (hj : j < l.length) : gt (nbrs l) i = gt (nbrs l) j ↔ gt l i = gt l j := by
  have I := nb_take l l.length (Nat.le_refl _)
  rw [List.take_length] at I
  unfold nbrs
  rw [I.at_ i hi, I.at_ j hj]
  have hm := I.mem
  generalize (nbr l ([], [])).1 = m at hm
  constructor
  · intro h
    have h := Int.ofNat.inj h
    have hat : ∀ k, k < l.length → m[m.findIdx fun x => decide (x = gt l k)]? = some (gt l k) := fun k hk => by
      have mm : gt l k ∈ m := (hm _).mpr (by rw [gt_lt hk]; exact List.getElem_mem hk)
      have hlt : (m.findIdx fun x => decide (x = gt l k)) < m.length := List.findIdx_lt_length_of_exists ⟨_, mm, decide_eq_true rfl⟩
      rw [List.getElem?_eq_getElem hlt, (of_decide_eq_true (List.findIdx_getElem (p := fun x => decide (x = gt l k)) (w := hlt)) : m[m.findIdx fun x => decide (x = gt l k)] = gt l k)]
    have a := hat i hi
    rw [h, hat j hj] at a
    exact (Option.some.inj a).symm
  · intro h
    rw [h]
theorem nbrs_len (l : List Int) : (nbrs l).length = l.length := by
  have := (nbr_len l ([], [])).1
  unfold nbrs
  rw [this]
  simp
end K28

set_option Elab.async false
set_option linter.all false
set_option maxRecDepth 100000
set_option maxHeartbeats 4000000
namespace K28
open PySem PySem.Spec PyProof.Rows L2
open Evl (Ex)

/-! ## plain: the law's tests hold -/
theorem LkB.z {A B : Bk} (oA : A.Ok) (oB : B.Ok) {f : Nat → Nat → Bool} (h : LkB A B f) {p q : Nat} (hp : p < A.sides.length) (hq : q < B.sides.length) : f p q = true ↔ LkZ A B p q := (h p q hp hq).trans (lk_iff oA oB p q)
theorem Pt.a {A B : Bk} : Pt A B A 0 := .inl ⟨rfl, rfl⟩
theorem Pt.b {A B : Bk} : Pt A B B A.sides.length := .inr ⟨rfl, rfl⟩
theorem cls_ab {A B : Bk} (oA : A.Ok) (oB : B.Ok) {fs : List Int} (h : ClsOk A B fs) {p q : Nat} (hp : p < A.sides.length) (hq : q < B.sides.length) : gt fs p = gt fs (A.sides.length + q) ↔ LkZ A B p q := by
  have z := cls_lk oA oB (Pt.a (A := A) (B := B)) (Pt.b (A := A) (B := B)) h hp hq
  rw [Nat.zero_add] at z
  exact z
theorem lks_lwAl {A B : Bk} (oA : A.Ok) (oB : B.Ok) {f : Nat → Nat → Bool} (h : LkB A B f) {fs : List Int} (c : ClsOk A B fs) : lks f A.sides.length B.sides.length = lwAl fs A.sides.length B.sides.length := by
  unfold lks lwAl
  refine List.filter_congr fun z hz => ?_
  obtain ⟨h1, h2⟩ := mem_pairs.mp hz
  rw [Bool.eq_iff_iff, h.z oA oB h1 h2, decide_eq_true_iff]
  exact (cls_ab oA oB c h1 h2).symm
/-- numbers of a book's places -/
theorem cnum_law {B : Bk} (ok : B.Ok) {f : Nat → Nat → Bool} (h : LkB B B f) {fs : List Int} (c : ClsOk B B fs) (l : B.sides.length ≤ fs.length) : cnum f B.sides.length = nbrs (fs.take B.sides.length) := by
  refine cnum_nbr _ l fun i j hi hj => ?_
  rw [h.z ok ok hi hj]
  have z := cls_lk ok ok (Pt.a (A := B) (B := B)) (Pt.a (A := B) (B := B)) c hi hj
  rw [Nat.zero_add, Nat.zero_add] at z
  exact z.symm
/-- like places bear one number, others do not -/
theorem num_like {B : Bk} (ok : B.Ok) {f : Nat → Nat → Bool} (h : LkB B B f) {fs : List Int} (c : ClsOk B B fs) (l : B.sides.length ≤ fs.length) {i j : Nat} (hi : i < B.sides.length) (hj : j < B.sides.length) :
    gt (nbrs (fs.take B.sides.length)) i = gt (nbrs (fs.take B.sides.length)) j ↔ f i j = true := by
  have lt : (fs.take B.sides.length).length = B.sides.length := by rw [List.length_take]; omega
  rw [nbrs_eq (by omega) (by omega), gt_take hi, gt_take hj, h.z ok ok hi hj]
  have z := cls_lk ok ok (Pt.a (A := B) (B := B)) (Pt.a (A := B) (B := B)) c hi hj
  rw [Nat.zero_add, Nat.zero_add] at z
  exact z
theorem flat_len {f : Nat → Nat → Bool} {n m : Nat} : (lks f n m).length = ((List.range n).map fun p => ((List.range m).filter (f p)).length).sum := by
  unfold lks pairs
  rw [List.filter_flatMap, List.length_flatMap]
  refine congrArg List.sum (List.map_congr_left fun p _ => ?_)
  rw [List.filter_map, List.length_map]
  rfl
/-- how often each number occurs, summed: the number of like pairs -/
theorem count_sum {f : Nat → Nat → Bool} {ns : List Int} {n : Nat} (ln : ns.length = n) (h : ∀ i j, i < n → j < n → (gt ns i = gt ns j ↔ f i j = true)) : (lks f n n).length = (ns.map fun x => (ns.filter fun y => decide (y = x)).length).sum := by
  rw [flat_len]
  have e : ns = (List.range n).map (gt ns) := by
    refine list_ext_gt (by rw [List.length_map, List.length_range, ln]) fun i hi => ?_
    rw [gt_lt (l := (List.range n).map (gt ns)) (by rw [List.length_map, List.length_range]; omega), List.getElem_map, List.getElem_range]
  have e2 : ∀ x, (ns.filter fun y => decide (y = x)).length = ((List.range n).filter fun j => decide (gt ns j = x)).length := fun x => by
    conv => lhs; rw [e]
    rw [List.filter_map, List.length_map]
    rfl
  conv => rhs; arg 1; arg 2; rw [e]
  rw [List.map_map]
  refine congrArg List.sum (List.map_congr_left fun i hi => ?_)
  have hi := List.mem_range.mp hi
  show _ = (ns.filter fun y => decide (y = gt ns i)).length
  rw [e2]
  refine congrArg List.length (List.filter_congr fun j hj => ?_)
  rw [Bool.eq_iff_iff, decide_eq_true_iff, ← h i j hi (List.mem_range.mp hj)]
  exact ⟨Eq.symm, Eq.symm⟩
/-! ### turned pairs in order -/
def NatLt (a b : Nat × Nat) : Prop := a.1 < b.1 ∨ (a.1 = b.1 ∧ a.2 < b.2)
theorem pairs_sorted (n m : Nat) : (pairs n m).Pairwise NatLt := by
  induction n with
  | zero => exact List.Pairwise.nil
  | succ n ih =>
    rw [pairs_succ]
    refine List.pairwise_append.mpr ⟨ih, ?_, fun a ha b hb => ?_⟩
    · refine List.pairwise_map.mpr (List.Pairwise.imp (fun {a b} h => ?_) (List.pairwise_lt_range (n := m)))
      exact .inr ⟨rfl, h⟩
    · obtain ⟨q, _, rfl⟩ := List.mem_map.mp hb
      exact .inl (mem_pairs.mp ha).1
theorem nat_uniq {l m : List (Nat × Nat)} (h1 : l.Pairwise NatLt) (h2 : m.Pairwise NatLt) (h : ∀ x, x ∈ l ↔ x ∈ m) : l = m := by
  let g : Nat × Nat → Int × Int := fun z => (z.1, z.2)
  have gi : ∀ a b, g a = g b → a = b := fun a b e => Prod.ext (Int.ofNat.inj (congrArg (·.1) e)) (Int.ofNat.inj (congrArg (·.2) e))
  have gl : ∀ a b, NatLt a b → LexLt (g a) (g b) := fun a b e => by
    unfold NatLt at e
    show (a.1 : Int) < b.1 ∨ ((a.1 : Int) = b.1 ∧ (a.2 : Int) < b.2)
    omega
  have e : l.map g = m.map g := by
    refine sorted_uniq (List.pairwise_map.mpr (h1.imp fun {a b} => gl a b)) (List.pairwise_map.mpr (h2.imp fun {a b} => gl a b)) fun x => ?_
    rw [List.mem_map, List.mem_map]
    exact ⟨fun ⟨a, ha, e⟩ => ⟨a, (h a).mp ha, e⟩, fun ⟨a, ha, e⟩ => ⟨a, (h a).mpr ha, e⟩⟩
  exact (List.map_inj_right (fun a b => gi a b)).mp e
def swp (z : Nat × Nat) : Nat × Nat := (z.2, z.1)
theorem turned {A B : Bk} (oA : A.Ok) (oB : B.Ok) {g : Nat → Nat → Bool} (h : LkB B A g) {fs : List Int} (c : ClsOk A B fs) {vs : List (Nat × Nat)} (pm : vs.Perm ((lwAl fs A.sides.length B.sides.length).map swp)) (pw : vs.Pairwise fun a b => NatLt a b ∨ a = b) : vs = lks g B.sides.length A.sides.length := by
  have nd : vs.Nodup := by
    refine pm.nodup_iff.mpr ?_
    have n1 : (pairs A.sides.length B.sides.length).Nodup := (pairs_sorted _ _).imp fun {a b} h e => by
      unfold NatLt at h
      rw [e] at h
      omega
    refine List.pairwise_map.mpr ((n1.filter _).imp fun {a b} ne e => ne ?_)
    exact Prod.ext (congrArg (·.2) e) (congrArg (·.1) e)
  refine nat_uniq ((pw.and nd).imp fun {a b} h => h.1.resolve_right h.2) ((pairs_sorted _ _).filter _) fun x => ?_
  rw [pm.mem_iff, List.mem_map]
  constructor
  · rintro ⟨z, hz, rfl⟩
    obtain ⟨h1, h2⟩ := List.mem_filter.mp hz
    obtain ⟨h3, h4⟩ := mem_pairs.mp h1
    refine (mem_lks h4 h3).mpr ((h.z oB oA h4 h3).mpr (lkz_symm ((cls_ab oA oB c h3 h4).mp (of_decide_eq_true h2))))
  · intro hx
    obtain ⟨h1, h2⟩ := List.mem_filter.mp hx
    obtain ⟨h3, h4⟩ := mem_pairs.mp h1
    exact ⟨(x.2, x.1), List.mem_filter.mpr ⟨mem_pairs.mpr ⟨h4, h3⟩, decide_eq_true ((cls_ab oA oB c h4 h3).mpr (lkz_symm ((h.z oB oA h3 h4).mp h2)))⟩, rfl⟩
end K28

set_option Elab.async false
set_option linter.all false
set_option maxRecDepth 100000
set_option maxHeartbeats 4000000
namespace K28
open PySem PySem.Spec PyProof.Rows L2
open Evl (Ex)

/-! ## the law's last step: what is raised -/
def qL : Str := (envOfC "law" (defScope s_law) 0 0 .none).qual ++ "<lambda>"
abbrev aT (K : PySem.W.Frag) : Addr := (He.cT K ("law", none)).2
def LT (K : PySem.W.Frag) : List (Addr × Str) := [(aT K, qL)]
theorem tabs_nil {K : PySem.W.Frag} {H : Hp} (h : H (aT K) = some (.tbl #[])) : LamX.Tabs (LT K) H := fun p hp => by
  rw [List.mem_singleton.mp hp]
  exact LamX.TabS.nil h
theorem kp_extN {K : PySem.W.Frag} {H H' : Hp} (e : LamX.ExtN H H') : Kp K H H' := by
  refine ⟨fun a C d fs h => e _ _ h fun _ z => (by cases z), fun a xs h => e _ _ h fun _ z => (by cases z), fun a xs h => ?_⟩
  rcases h with (h | ⟨o, h⟩) | h
  · exact .inl (.inl (e _ _ h fun _ z => (by cases z)))
  · exact .inl (.inr ⟨o, e _ _ h fun _ z => (by cases z)⟩)
  · exact .inr h
/-- a value that is no place, and its datum -/
inductive OddV (K : PySem.W.Frag) (H : Hp) (n : Nat) : V → PyData → Prop
  | int {i : Int} (h : ¬ (0 ≤ i ∧ i < n)) : OddV K H n (.int i) (.int i)
  | non : OddV K H n .non .none
  | bl (b : Bool) : OddV K H n (.bl b) (.bool b)
  | str : OddV K H n (.str "0") (.str "0")
  | tup {a : Addr} (h : SqT K H a [.int 0]) : OddV K H n (.ref a) (.tuple [.int 0])
section
variable {K : PySem.W.Frag} {H H' : Hp} {n : Nat} {v : V} {d : PyData}
theorem OddV.kp (e : Kp K H H') (h : OddV K H n v d) : OddV K H' n v d := by
  cases h with
  | int h => exact .int h
  | non => exact .non
  | bl b => exact .bl b
  | str => exact .str
  | tup h => exact .tup (e.t _ _ h)
theorem OddV.bad (h : OddV K H n v d) : BadV K H v n := by
  cases h with
  | int h => exact .inr ⟨_, rfl, h⟩
  | non => exact .inl .non
  | bl b => exact .inl (.bl b)
  | str => exact .inl (.str _)
  | tup h => exact .inl (.tup h)
theorem OddV.dp (h : OddV K H n v d) : Dp K H v d := by
  cases h with
  | int h => exact .int _
  | non => exact .non
  | bl b => exact .bl b
  | str => exact .str _
  | tup h => exact .tup h (.cons (.int _) .nil)
theorem OddV.shp (h : OddV K H n v d) : SeqAt.shaped (.tuple [d]) = true := by
  cases h <;> exact K28.shp (by simp [PyData.canLay0, PyData.canLayAll0] <;> decide +kernel) (by simp [PyData.depth, PyData.depthAll])
theorem OddV.eqv (h : OddV K H n v d) : PyData.eqv (.tuple [d]) (.tuple [d]) = true := by
  cases h <;> simp [PyData.eqv, PyData.eqvAll]
end
def N_law : List Str := ["_law_script", "_law_pen_here", "_law_book", "_law_other", "_law_one", "_law_two", "_law_due", "_law_pair", "_law_size", "_law_lap", "_law_place", "_law_another", "_law_numbers", "_law_pairs", "_law_number", "_law_bad", "_law_odd"]
theorem sc_law : FnScope N_law ["_law_script"] (defScope s_law) := ⟨rfl, rfl, rfl, by decide +kernel, rfl, by decide +kernel, by decide +kernel⟩
/-- names: 0 _law_script 1 _law_pen_here 2 _law_book 3 _law_other 4 _law_one* 5 _law_two* 6 _law_due 7 _law_pair 8 _law_size 9 _law_lap 10 _law_place 11 _law_another 12 _law_numbers* 13 _law_pairs 14 _law_number 15 _law_bad* 16 _law_odd* -/
def t_law (P : Program) (w : World) (K : PySem.W.Frag) : TS :=
    (tSeq (tAsg (tFn (sp__law_pen w K) (tCons (tVar 0) tNil)) (gName 1))
    (tSeq (tAsg (tFn (sp__law_drawn_book w K) (tCons (tVar 1) tNil)) (gName 2))
    (tSeq (tAsg (tIf (tTest (tOp rEq (tFn (sp__law_draw w K) (tCons (tVar 1) (tCons (tC (.int 6)) tNil))) (tC (.int 0)))) (tFn (sp__law_drawn_book w K) (tCons (tVar 1) tNil)) (tFn (sp__law_near_twin w K) (tCons (tVar 1) (tCons (tVar 2) (tCons (tC (.int 3)) tNil))))) (gName 3))
    (tSeq (tAsg (tTup (tCons (tFn (sp__law_made_book w K) (tCons (tVar 1) (tCons (tVar 2) tNil))) (tCons (tFn (sp__law_made_book w K) (tCons (tVar 1) (tCons (tVar 3) tNil))) (tCons (tFn (sp__law_alike w K) (tCons (tVar 2) (tCons (tVar 3) tNil))) tNil)))) (gTup K 3 (gCons (gName 4) (gCons (gName 5) (gCons (gName 6) gNil)))))
    (tSeq (tIfS (tOr (tTest (tOp (rNeD K) (tFn (sp_likeness w K) (tCons (tVar 4) (tCons (tVar 5) tNil))) (tVar 6))) (tTest (tOp (rNeD K) (tFn (sp_likeness w K) (tCons (tVar 5) (tCons (tVar 4) tNil))) (tCB (rTupQ K) (tCons (tCB (rSortU K 2 4294967296) (tCons (tLc (iTup K (tVar 6)) (gName 7) tYes (tTup (tCons (tOp (rIxT K) (tVar 7) (tC (.int 1))) (tCons (tOp (rIxT K) (tVar 7) (tC (.int 0))) tNil))) [7]) tNil)) tNil)))))
    (tRet (tC (.bl false)))
    tNext)
    (tSeq (tAsg (tCB (rLenX K) (tCons (tDGet (tVar 3) (tC (.str "sides"))) tNil)) (gName 8))
    (tSeq (tFor (iRng1 (tCons (tC (.int 6)) tNil)) (gName 9)
    (tSeq (tPar 10 11 (tCons (tFn (sp__law_draw w K) (tCons (tVar 1) (tCons (tCB (rLenX K) (tCons (tDGet (tVar 2) (tC (.str "sides"))) tNil)) tNil))) (tCons (tFn (sp__law_draw w K) (tCons (tVar 1) (tCons (tVar 8) tNil))) tNil)))
    (tIfS (tNot (tB (tFn (sp__law_is w K) (tCons (tFn (sp_is_alike w K) (tCons (tVar 4) (tCons (tVar 10) (tCons (tVar 5) (tCons (tVar 11) tNil))))) (tCons (tOp (rInT K) (tTup (tCons (tVar 10) (tCons (tVar 11) tNil))) (tVar 6)) tNil)))))
    (tRet (tC (.bl false)))
    tNext)))
    (tSeq (tAsg (tFn (sp__law_numbered w K) (tCons (tSl (rSlL K) (tFn (sp__law_classes w K) (tCons (tVar 3) (tCons (tVar 3) tNil))) tNoPart (tPart (tVar 8))) tNil)) (gName 12))
    (tSeq (tIfS (tTest (tOp (rNeD K) (tFn (sp_classes w K) (tCons (tVar 5) tNil)) (tVar 12)))
    (tRet (tC (.bl false)))
    tNext)
    (tSeq (tAsg (tLc (iTup K (tFn (sp_likeness w K) (tCons (tVar 5) (tCons (tVar 5) tNil)))) (gName 7) (tTest (tOp rNe (tOp (rIxT K) (tVar 12) (tOp (rIxT K) (tVar 7) (tC (.int 0)))) (tOp (rIxT K) (tVar 12) (tOp (rIxT K) (tVar 7) (tC (.int 1)))))) (tVar 7) [7]) (gName 13))
    (tSeq (tIfS (tOr (tTest (tOp (rNeD K) (tVar 13) (tLst tNil))) (tTest (tOp rNe (tCB (rLenX K) (tCons (tFn (sp_likeness w K) (tCons (tVar 5) (tCons (tVar 5) tNil))) tNil)) (tCB (rSum K) (tCons (tLc (iTup K (tVar 12)) (gName 14) tYes (tBMF (rCountT K) (tVar 12) (tCons (tVar 14) tNil)) [14]) tNil)))))
    (tRet (tC (.bl false)))
    tNext)
    (tSeq (tAsg (tTup (tCons (tFn (sp__law_pick w K) (tCons (tVar 1) (tCons (tLst (tCons (tUn rNegI (tC (.int 1))) (tCons (tFld K (tVar 4) ("places" : Str)) (tCons (tC .non) (tCons (tC (.bl true)) (tCons (tC (.str "0")) tNil)))))) tNil))) (tCons (tFn (sp__law_pick w K) (tCons (tVar 1) (tCons (tLst (tCons (tFld K (tVar 5) ("places" : Str)) (tCons (tUn rNegI (tC (.int 1))) (tCons (tC .non) (tCons (tC (.bl false)) (tCons (tTup (tCons (tC (.int 0)) tNil)) tNil)))))) tNil))) tNil))) (gTup K 2 (gCons (gName 15) (gCons (gName 16) gNil))))
    (tSeq (tIfS (tTest (tOp (rNeD K) (LamX.tLam (LT K) (TTf K) (fun Ech => tCall (sp_is_alikeX w K) [] Ech (tCons (tVar 4) (tCons (tVar 15) (tCons (tVar 5) (tCons (tVar 16) tNil)))))) (tTup (tCons (tVar 15) tNil))))
    (tRet (tC (.bl false)))
    tNext)
    (tRet (tOp (rEqD K) (LamX.tLam (LT K) (TTf K) (fun Ech => tCall (sp_is_alikeX w K) [] Ech (tCons (tVar 4) (tCons (tC (.int 0)) (tCons (tVar 5) (tCons (tVar 16) tNil)))))) (tTup (tCons (tVar 16) tNil)))))))))))))))))
def t_law_12 (P : Program) (w : World) (K : PySem.W.Frag) : TS :=
    (tSeq (tIfS (tTest (tOp (rNeD K) (LamX.tLam (LT K) (TTf K) (fun Ech => tCall (sp_is_alikeX w K) [] Ech (tCons (tVar 4) (tCons (tVar 15) (tCons (tVar 5) (tCons (tVar 16) tNil)))))) (tTup (tCons (tVar 15) tNil))))
    (tRet (tC (.bl false)))
    tNext)
    (tRet (tOp (rEqD K) (LamX.tLam (LT K) (TTf K) (fun Ech => tCall (sp_is_alikeX w K) [] Ech (tCons (tVar 4) (tCons (tC (.int 0)) (tCons (tVar 5) (tCons (tVar 16) tNil)))))) (tTup (tCons (tVar 16) tNil)))))
section
variable {P : Program} {w : World} {K : PySem.W.Frag} {mg : Str → Option Value}
/-- what _law_fault gives where is_alike raises: x's tuple -/
theorem fault_gives {H : Hp} {σ : L2.St} {t : XK → TE} {Q : VK} {v4 v5 x a b : V} {A B : Bk} {d : PyData} {n : Nat} (hT : LamX.Tabs (LT K) H) (m4 : IsBk K H v4 A) (m5 : IsBk K H v5 B) (od : OddV K H n x d) (bad : ∀ H', Kp K H H' → BadPair K H' A B a b x)
    (ht : ∀ Ech H' Q', sp_is_alikeX w K [v4, a, v5, b] H' Q' Ech → t Ech σ H' Q')
    (q : ∀ H' T, Kp K H H' → LamX.Tabs (LT K) H' → SqT K H' T [x] → Q (.ref T) H') : LamX.tLam (LT K) (TTf K) t σ H Q := by
  refine ⟨hT, fun H1 eN T1 => ?_⟩
  have k1 := kp_extN (K := K) eN
  refine ht _ _ _ ⟨v4, v5, a, b, x, A, B, rfl, m4.kp k1, m5.kp k1, bad H1 k1, fun H2 dd e2 hd hx => ⟨x, dd, rfl, rfl, hx, fun T hT2 => ?_⟩⟩
  have e3 := e2.trans (Ex.new (o := .tup [x]) hT2)
  exact q _ T (k1.trans (.ex e3)) (T1.ext e3) (Evl.st_of upd_same)
theorem law_12 {H : Hp} {Q : VK} {v4 v5 x y : V} {A B : Bk} {dx dy : PyData} {x0 x1 x2 x3 x6 x7 x8 x9 x10 x11 x12 x13 x14 : Option V} (oA : A.Ok) (hT : LamX.Tabs (LT K) H) (m4 : IsBk K H v4 A) (m5 : IsBk K H v5 B) (ox : OddV K H A.sides.length x dx) (oy : OddV K H B.sides.length y dy) (q : ∀ H', Q (.bl true) H') :
    t_law_12 P w K { nx := fun _ H' => Q .non H', rt := Q } [x0, x1, x2, x3, some v4, some v5, x6, x7, x8, x9, x10, x11, x12, x13, x14, some x, some y] H := by
  refine fault_gives (x := x) (a := x) (b := y) (A := A) (B := B) hT m4 m5 ox (fun H' k => .inl ⟨rfl, (ox.kp k).bad⟩) (fun Ech H' Q' h => ⟨_, rfl, _, rfl, _, rfl, _, rfl, h⟩) fun H1 T k1 T1 sT => ?_
  refine ⟨_, rfl, (by show 1 ≤ sizeLine; decide), fun T2 hT2 => ?_⟩
  have e2 := Ex.new (o := .tup [x]) hT2
  have ox2 := (ox.kp k1).kp (.ex e2)
  refine ⟨.tuple [dx], .tuple [dx], .tup (Evl.ex_t e2 sT) (.cons ox2.dp .nil), .tup (Evl.st_of upd_same) (.cons ox2.dp .nil), ox2.shp, ox2.shp, _, rfl, ?_⟩
  rw [ox2.eqv]
  have k2 := k1.trans (.ex e2)
  refine fault_gives (x := y) (a := .int 0) (b := y) (A := A) (B := B) (T1.ext e2) (m4.kp k2) (m5.kp k2) (oy.kp k2) (fun H' k => .inr ⟨rfl, ⟨0, rfl, oA.n0⟩, ((oy.kp k2).kp k).bad⟩) (fun Ech H' Q' h => ⟨_, rfl, _, rfl, _, rfl, h⟩) fun H3 T3 k3 T4 sT3 => ?_
  refine ⟨_, rfl, (by show 1 ≤ sizeLine; decide), fun T5 hT5 => ?_⟩
  have e5 := Ex.new (o := .tup [y]) hT5
  have oy5 := ((oy.kp k2).kp k3).kp (.ex e5)
  refine ⟨.tuple [dy], .tuple [dy], .tup (Evl.ex_t e5 sT3) (.cons oy5.dp .nil), .tup (Evl.st_of upd_same) (.cons oy5.dp .nil), oy5.shp, oy5.shp, ?_⟩
  rw [oy5.eqv]
  exact q _
end
end K28

set_option Elab.async false
set_option linter.all false
set_option maxRecDepth 100000
set_option maxHeartbeats 4000000
namespace K28
open PySem PySem.Spec PyProof.Rows L2
open Evl (Ex)

def t_law_11 (P : Program) (w : World) (K : PySem.W.Frag) : TS :=
    (tSeq (tAsg (tTup (tCons (tFn (sp__law_pick w K) (tCons (tVar 1) (tCons (tLst (tCons (tUn rNegI (tC (.int 1))) (tCons (tFld K (tVar 4) ("places" : Str)) (tCons (tC .non) (tCons (tC (.bl true)) (tCons (tC (.str "0")) tNil)))))) tNil))) (tCons (tFn (sp__law_pick w K) (tCons (tVar 1) (tCons (tLst (tCons (tFld K (tVar 5) ("places" : Str)) (tCons (tUn rNegI (tC (.int 1))) (tCons (tC .non) (tCons (tC (.bl false)) (tCons (tTup (tCons (tC (.int 0)) tNil)) tNil)))))) tNil))) tNil))) (gTup K 2 (gCons (gName 15) (gCons (gName 16) gNil))))
    (tSeq (tIfS (tTest (tOp (rNeD K) (LamX.tLam (LT K) (TTf K) (fun Ech => tCall (sp_is_alikeX w K) [] Ech (tCons (tVar 4) (tCons (tVar 15) (tCons (tVar 5) (tCons (tVar 16) tNil)))))) (tTup (tCons (tVar 15) tNil))))
    (tRet (tC (.bl false)))
    tNext)
    (tRet (tOp (rEqD K) (LamX.tLam (LT K) (TTf K) (fun Ech => tCall (sp_is_alikeX w K) [] Ech (tCons (tVar 4) (tCons (tC (.int 0)) (tCons (tVar 5) (tCons (tVar 16) tNil)))))) (tTup (tCons (tVar 16) tNil))))))
/-! ## what the law holds while it runs -/
structure LwS (K : PySem.W.Frag) (H : Hp) (p c : Addr) (n : Nat) (v2 v3 v4 v5 : V) (T : Addr) (ps : List V) (A B : Bk) (fs : List Int) : Prop where
  pen : Pen H p c n
  b2 : LwB K H v2 A
  b3 : LwB K H v3 B
  m4 : IsBk K H v4 A
  m5 : IsBk K H v5 B
  tb : H (aT K) = some (.tbl #[])
  st : SqT K H T ps
  al : DtAll K H ps ((lwAl fs A.sides.length B.sides.length).map prD)
section
variable {K : PySem.W.Frag} {H H' : Hp} {p c T : Addr} {n m : Nat} {v2 v3 v4 v5 : V} {ps : List V} {A B : Bk} {fs : List Int}
theorem LwS.ex (e : Ex H H') (s : LwS K H p c n v2 v3 v4 v5 T ps A B fs) : LwS K H' p c n v2 v3 v4 v5 T ps A B fs :=
  ⟨s.pen.ex e, s.b2.ex e, s.b3.ex e, s.m4.ex e, s.m5.ex e, e _ _ s.tb, Evl.ex_t e s.st, s.al.tk (.ex e)⟩
theorem tb_but {p c : Addr} {n : Nat} (pen : Pen H p c n) (e : But p H H') (h : H (aT K) = some (.tbl #[])) : H' (aT K) = some (.tbl #[]) := by
  obtain ⟨kvs, q⟩ := pen.dK
  exact e _ _ (ne_of h q (by intro z; cases z)) h
theorem LwS.but (s : LwS K H p c n v2 v3 v4 v5 T ps A B fs) (e : But p H H') (pn : Pen H' p c m) : LwS K H' p c m v2 v3 v4 v5 T ps A B fs := by
  have k := s.pen.kp (K := K) e
  exact ⟨pn, s.b2.but s.pen e, s.b3.but s.pen e, s.m4.kp k, s.m5.kp k, tb_but s.pen e s.tb, k.t _ _ s.st, s.al.tk k.t⟩
theorem odd_a {n : Nat} {x : V} (h : x ∈ [V.int (-1), .int (n : Nat), .non, .bl true, .str "0"]) : ∃ d, OddV K H n x d := by
  simp only [List.mem_cons, List.not_mem_nil, or_false] at h
  rcases h with rfl | rfl | rfl | rfl | rfl
  · exact ⟨_, .int (by omega)⟩
  · exact ⟨_, .int (by omega)⟩
  · exact ⟨_, .non⟩
  · exact ⟨_, .bl _⟩
  · exact ⟨_, .str⟩
theorem odd_b {n : Nat} {U : Addr} (s : SqT K H U [.int 0]) {x : V} (h : x ∈ [V.int (n : Nat), .int (-1), .non, .bl false, .ref U]) : ∃ d, OddV K H n x d := by
  simp only [List.mem_cons, List.not_mem_nil, or_false] at h
  rcases h with rfl | rfl | rfl | rfl | rfl
  · exact ⟨_, .int (by omega)⟩
  · exact ⟨_, .int (by omega)⟩
  · exact ⟨_, .non⟩
  · exact ⟨_, .bl _⟩
  · exact ⟨_, .tup s⟩
end
section
variable {P : Program} {w : World} {K : PySem.W.Frag} {mg : Str → Option Value} (E : Ctx w K mg)
include E
theorem law_11 {H : Hp} {Q : VK} {p c T : Addr} {n : Nat} {v2 v3 v4 v5 : V} {ps : List V} {A B : Bk} {fs : List Int} {x0 x6 x7 x8 x9 x10 x11 x12 x13 x14 x15 x16 : Option V} (s : LwS K H p c n v2 v3 v4 v5 T ps A B fs) (hn : n ≤ 900000000) (oA : A.Ok) (q : ∀ H', Q (.bl true) H') :
    t_law_11 P w K { nx := fun _ H' => Q .non H', rt := Q } [x0, some (.ref p), some v2, some v3, some v4, some v5, x6, x7, x8, x9, x10, x11, x12, x13, x14, x15, x16] H := by
  obtain ⟨a4, d4, s4, m4, g4, ms4, gs4, rfl, h4, r4⟩ := id s.m4
  obtain ⟨a5, d5, s5, m5, g5, ms5, gs5, rfl, h5, r5⟩ := id s.m5
  refine ⟨_, rfl, 1, rfl, _, rfl, a4, _, d4, _, _, rfl, h4, E.cls_Book, E.na_Book_places, rfl, (by show 5 ≤ sizeLine; decide), fun L hL => ?_⟩
  have eL := Ex.new (o := .lst [.int (-1), .int (A.sides.length : Nat), .non, .bl true, .str "0"]) hL
  have sL := s.ex eL
  refine ⟨p, c, L, n, _, rfl, sL.pen, by omega, .inl (Evl.sq_of upd_same), by simp, by show 5 < 1000000; decide, fun H1 x b1 p1 hx => ?_⟩
  have s1 := sL.but b1 p1
  obtain ⟨dx, ox⟩ := odd_a (K := K) (H := H1) hx
  obtain ⟨a5', d5', s5', m5', g5', ms5', gs5', e5, h5', r5'⟩ := id s1.m5
  cases e5
  refine ⟨_, rfl, _, rfl, a5, _, _, _, _, rfl, h5', E.cls_Book, E.na_Book_places, rfl, 1, rfl, (by show 1 ≤ sizeLine; decide), fun U hU => ⟨(by show 5 ≤ sizeLine; decide), fun L2 hL2 => ?_⟩⟩
  have eU := Ex.new (o := .tup [.int 0]) hU
  have eL2 := Ex.new (o := .lst [.int (B.sides.length : Nat), .int (-1), .non, .bl false, .ref U]) hL2
  have sU := s1.ex (eU.trans eL2)
  refine ⟨p, c, L2, _, _, rfl, sU.pen, by omega, .inl (Evl.sq_of upd_same), by simp, by show 5 < 1000000; decide, fun H2 y b2 p2 hy => ?_⟩
  have k2 := sU.pen.kp (K := K) b2
  have s2 := sU.but b2 p2
  obtain ⟨dy, oy⟩ := odd_b (K := K) (H := H2) (k2.t _ _ (Evl.st_of (eL2 _ _ upd_same))) hy
  refine ⟨(by show 2 ≤ sizeLine; decide), fun T0 hT0 => ⟨T0, _, rfl, Evl.st_of upd_same, rfl, _, _, rfl, _, _, rfl, rfl, ?_⟩⟩
  have eT := Ex.new (o := .tup [x, y]) hT0
  have s3 := s2.ex eT
  exact law_12 (P := P) oA (tabs_nil s3.tb) s3.m4 s3.m5 ((ox.kp ((Kp.ex (eU.trans eL2)).trans k2)).kp (.ex eT)) (oy.kp (.ex eT)) q
end
end K28

set_option Elab.async false
set_option linter.all false
set_option maxRecDepth 100000
set_option maxHeartbeats 4000000
namespace K28
open PySem PySem.Spec PyProof.Rows L2
open Evl (Ex)

def t_law_9 (P : Program) (w : World) (K : PySem.W.Frag) : TS :=
    (tSeq (tAsg (tLc (iTup K (tFn (sp_likeness w K) (tCons (tVar 5) (tCons (tVar 5) tNil)))) (gName 7) (tTest (tOp rNe (tOp (rIxT K) (tVar 12) (tOp (rIxT K) (tVar 7) (tC (.int 0)))) (tOp (rIxT K) (tVar 12) (tOp (rIxT K) (tVar 7) (tC (.int 1)))))) (tVar 7) [7]) (gName 13))
    (tSeq (tIfS (tOr (tTest (tOp (rNeD K) (tVar 13) (tLst tNil))) (tTest (tOp rNe (tCB (rLenX K) (tCons (tFn (sp_likeness w K) (tCons (tVar 5) (tCons (tVar 5) tNil))) tNil)) (tCB (rSum K) (tCons (tLc (iTup K (tVar 12)) (gName 14) tYes (tBMF (rCountT K) (tVar 12) (tCons (tVar 14) tNil)) [14]) tNil)))))
    (tRet (tC (.bl false)))
    tNext)
    (tSeq (tAsg (tTup (tCons (tFn (sp__law_pick w K) (tCons (tVar 1) (tCons (tLst (tCons (tUn rNegI (tC (.int 1))) (tCons (tFld K (tVar 4) ("places" : Str)) (tCons (tC .non) (tCons (tC (.bl true)) (tCons (tC (.str "0")) tNil)))))) tNil))) (tCons (tFn (sp__law_pick w K) (tCons (tVar 1) (tCons (tLst (tCons (tFld K (tVar 5) ("places" : Str)) (tCons (tUn rNegI (tC (.int 1))) (tCons (tC .non) (tCons (tC (.bl false)) (tCons (tTup (tCons (tC (.int 0)) tNil)) tNil)))))) tNil))) tNil))) (gTup K 2 (gCons (gName 15) (gCons (gName 16) gNil))))
    (tSeq (tIfS (tTest (tOp (rNeD K) (LamX.tLam (LT K) (TTf K) (fun Ech => tCall (sp_is_alikeX w K) [] Ech (tCons (tVar 4) (tCons (tVar 15) (tCons (tVar 5) (tCons (tVar 16) tNil)))))) (tTup (tCons (tVar 15) tNil))))
    (tRet (tC (.bl false)))
    tNext)
    (tRet (tOp (rEqD K) (LamX.tLam (LT K) (TTf K) (fun Ech => tCall (sp_is_alikeX w K) [] Ech (tCons (tVar 4) (tCons (tC (.int 0)) (tCons (tVar 5) (tCons (tVar 16) tNil)))))) (tTup (tCons (tVar 16) tNil))))))))
/-! ## like pairs bear one number; they are counted -/
theorem eqv_all {α : Type} {g : α → PyData} (h : ∀ a, PyData.eqv (g a) (g a) = true) : ∀ l : List α, PyData.eqvAll (l.map g) (l.map g) = true
  | [] => by simp only [List.map_nil, PyData.eqvAll]
  | a :: l => by
    rw [List.map_cons, PyData.eqvAll, h a, eqv_all h l]
    rfl
theorem eqv_prs (l : List (Nat × Nat)) : PyData.eqv (.tuple (l.map prD)) (.tuple (l.map prD)) = true := by
  simp only [PyData.eqv]
  exact eqv_all (fun z => by rw [eqv_pr]; exact decide_eq_true rfl) l
theorem eqv_ints (l : List Int) : PyData.eqv (.tuple (l.map PyData.int)) (.tuple (l.map PyData.int)) = true := by
  simp only [PyData.eqv]
  exact eqv_all (fun z => by simp [PyData.eqv]) l
theorem ints_shp (l : List Int) : SeqAt.shaped (.tuple (l.map PyData.int)) = true := shp (by simp only [PyData.canLay0]; exact canAll (fun a => by simp [PyData.canLay0]) l) (by
  have := depAll (g := PyData.int) (k := 1) (fun a => by simp [PyData.depth]) l
  simp only [PyData.depth]
  omega)
theorem dta_ints {K : PySem.W.Frag} {H : Hp} (l : List Int) : DtAll K H (l.map V.int) (l.map PyData.int) := by
  induction l with
  | nil => exact .nil
  | cons a l ih => exact .cons (.int a) ih
theorem eqv_nil : PyData.eqv (.list []) (.list []) = true := by simp [PyData.eqv, PyData.eqvAll]
theorem nil_shp : SeqAt.shaped (.list []) = true := shp (by simp [PyData.canLay0, PyData.canLayAll0]) (by simp [PyData.depth, PyData.depthAll])
theorem filt_none (n : Nat) : (List.range n).filterMap (fun _ => (none : Option V)) = [] := by
  rw [List.filterMap_eq_nil_iff]
  exact fun _ _ => rfl
theorem filt_at {ns : List Int} (g : Int → Int) : (List.range (ns.map V.int).length).filterMap (fun i => (ns[i]?).map fun k => V.int (g k)) = (ns.map g).map V.int := by
  induction ns with
  | nil => rfl
  | cons a l ih =>
    rw [List.map_cons, List.length_cons, List.range_succ_eq_map, List.filterMap_cons, List.filterMap_map]
    have e : ((fun i => ((a :: l)[i]?).map fun k => V.int (g k)) ∘ Nat.succ) = fun i => (l[i]?).map fun k => V.int (g k) := by
      funext i
      rfl
    rw [e, ih]
    rfl
theorem sum_cast (ns : List Int) (g : Int → Nat) : (((ns.map g).sum : Nat) : Int) = (ns.map fun k => ((g k : Nat) : Int)).sum := by
  induction ns with
  | nil => rfl
  | cons a l ih =>
    rw [List.map_cons, List.map_cons, List.sum_cons, List.sum_cons, ← ih]
    omega
theorem cnt_filter (ns : List Int) (x : Int) : (ns.filter fun y => decide (y = x)).length = ns.count x := by
  rw [List.count_eq_countP, List.countP_eq_length_filter]
  refine congrArg List.length (List.filter_congr fun y _ => ?_)
  rw [Bool.eq_iff_iff, decide_eq_true_iff]
  exact beq_iff_eq.symm
section
variable {P : Program} {w : World} {K : PySem.W.Frag} {mg : Str → Option Value} (E : Ctx w K mg)
include E
theorem law_9 {H : Hp} {Q : VK} {p c T N : Addr} {n : Nat} {v2 v3 v4 v5 : V} {ps : List V} {A B : Bk} {fs ns : List Int} {x0 x6 x7 x8 x9 x10 x11 x13 x14 x15 x16 : Option V} (s : LwS K H p c n v2 v3 v4 v5 T ps A B fs) (hn : n ≤ 900000000) (oA : A.Ok) (oB : B.Ok) (sN : TupN H N (ns.map V.int))
    (ln : ns.length = B.sides.length) (hk : ∀ f, LkB B B f → ∀ i j, i < B.sides.length → j < B.sides.length → (gt ns i = gt ns j ↔ f i j = true)) (q : ∀ H', Q (.bl true) H') :
    t_law_9 P w K { nx := fun _ H' => Q .non H', rt := Q } [x0, some (.ref p), some v2, some v3, some v4, some v5, x6, x7, x8, x9, x10, x11, some (.ref N), x13, x14, x15, x16] H := by
  have nB := oB.n1
  have at_ns : ∀ i, i < B.sides.length → (ns.map V.int)[i]? = some (.int (gt ns i)) := fun i hi => by
    rw [List.getElem?_map, List.getElem?_eq_getElem (by omega)]
    unfold gt
    rw [List.getD_eq_getElem?_getD, List.getElem?_eq_getElem (by omega)]
    rfl
  refine ⟨_, rfl, _, rfl, v5, v5, B, B, rfl, s.m5, s.m5, oB, oB, fun H1 T1 ps1 f1 e1 st1 lk1 al1 => ⟨T1, rfl, ⟨_, st1⟩, fun D hD => ?_⟩⟩
  have len1 : ps1.length ≤ 100 := by
    rw [al1.1, List.length_map]
    unfold lks
    refine Nat.le_trans (List.length_filter_le _ _) ?_
    rw [pairs_len]
    have : B.sides.length * B.sides.length ≤ 7 * 7 := Nat.mul_le_mul nB nB
    omega
  refine lc_filt hD (walk_tup (xs := ps1)) (by omega) (fun _ => none) (fun H' e => Evl.ex_t e st1) ?_ ?_
  · rintro i y H3 H3' kk k0 hi e3 ⟨rfl, hy⟩ k1 k2
    obtain ⟨d, hd, dy⟩ := al1.get hy
    rw [List.getElem?_map] at hd
    cases hz : (lks f1 B.sides.length B.sides.length)[i]? with
    | none =>
      rw [hz] at hd
      cases hd
    | some z =>
      rw [hz] at hd
      cases hd
      have mz : z ∈ lks f1 B.sides.length B.sides.length := List.mem_of_getElem? hz
      obtain ⟨mz1, mz2⟩ := List.mem_filter.mp mz
      obtain ⟨z1, z2⟩ := mem_pairs.mp mz1
      have same : gt ns z.1 = gt ns z.2 := (hk f1 lk1 _ _ z1 z2).mpr mz2
      obtain ⟨ya, ys, rfl, sy, ty⟩ := (dy.tk (.ex e3)).tupD
      obtain ⟨u, v, rfl, d1, d2⟩ := ty.two
      rw [d1.intD, d2.intD] at sy
      have sN3 : SqT K _ N (ns.map V.int) := (sN.ex (e1.trans e3)).t
      refine ⟨rfl, _, rfl, _, rfl, ya, _, 0, _, rfl, rfl, sy, rfl, N, _, (z.1 : Nat), _, rfl, rfl, sN3, atI_nat (at_ns _ z1), _, rfl, _, rfl, ya, _, 1, _, rfl, rfl, sy, rfl, N, _, (z.2 : Nat), _, rfl, rfl, sN3, atI_nat (at_ns _ z2), rfl, _, rfl, ?_⟩
      rw [same, decide_eq_true rfl]
      exact k2 rfl _ (Ex.refl _)
  · intro H3 e3 hl3
    rw [filt_none] at hl3
    refine ⟨_, rfl, (by show 0 ≤ sizeLine; decide), fun D2 hD2 => ?_⟩
    have eD := Ex.new (o := .lst []) hD2
    refine ⟨.list [], .list [], .lst (Evl.sq_of (eD _ _ hl3)) .nil, .lst (Evl.sq_of upd_same) .nil, nil_shp, nil_shp, _, rfl, ?_⟩
    rw [eqv_nil]
    have s3 := (((s.ex e1).ex e3).ex eD)
    have e13 := ((e1.trans e3).trans eD)
    refine ⟨_, rfl, _, rfl, v5, v5, B, B, rfl, s3.m5, s3.m5, oB, oB, fun H4 T2 ps2 f2 e4 st2 lk2 al2 => ⟨_, _, rfl, .inr ⟨_, st2, rfl⟩, ?_⟩⟩
    have sN4 := sN.ex (e13.trans e4)
    refine ⟨_, rfl, N, rfl, ⟨_, sN4.t⟩, fun D3 hD3 => ?_⟩
    refine lc_filt hD3 (walk_tup (xs := ns.map V.int)) (by rw [List.length_map]; omega) (fun i => (ns[i]?).map fun k => V.int ((ns.count k : Nat) : Int)) (fun H' e => (sN4.ex e).t) ?_ ?_
    · rintro i y H5 H5' kk k0 hi e5 ⟨rfl, hy⟩ k1 k2
      rw [List.length_map] at hi
      rw [List.getElem?_map, List.getElem?_eq_getElem hi] at hy
      cases hy
      refine ⟨rfl, _, rfl, ⟨N, _, rfl, sN4.ex e5⟩, _, rfl, N, ns, _, rfl, rfl, (sN4.ex e5).t, k1 _ _ ?_ (Ex.refl _)⟩
      rw [List.getElem?_eq_getElem hi]
      rfl
    · intro H5 e5 hl5
      rw [filt_at fun k => ((ns.count k : Nat) : Int)] at hl5
      refine ⟨D3, _, rfl, Evl.sq_of hl5, rfl, _, rfl, ?_⟩
      have cs := count_sum ln fun i j hi hj => hk f2 lk2 i j hi hj
      have e : ((ps2.length : Nat) : Int) = (ns.map fun k => ((ns.count k : Nat) : Int)).sum := by
        rw [al2.1, List.length_map, cs, ← sum_cast ns fun k => ns.count k]
        refine congrArg (fun l : List Nat => ((l.sum : Nat) : Int)) (List.map_congr_left fun x _ => cnt_filter ns x)
      rw [e, decide_eq_true rfl]
      exact law_11 (P := P) E ((s3.ex e4).ex e5) hn oA q
end
end K28

set_option Elab.async false
set_option linter.all false
set_option maxRecDepth 100000
set_option maxHeartbeats 4000000
namespace K28
open PySem PySem.Spec PyProof.Rows L2
open Evl (Ex)

def t_law_7 (P : Program) (w : World) (K : PySem.W.Frag) : TS :=
    (tSeq (tAsg (tFn (sp__law_numbered w K) (tCons (tSl (rSlL K) (tFn (sp__law_classes w K) (tCons (tVar 3) (tCons (tVar 3) tNil))) tNoPart (tPart (tVar 8))) tNil)) (gName 12))
    (tSeq (tIfS (tTest (tOp (rNeD K) (tFn (sp_classes w K) (tCons (tVar 5) tNil)) (tVar 12)))
    (tRet (tC (.bl false)))
    tNext)
    (tSeq (tAsg (tLc (iTup K (tFn (sp_likeness w K) (tCons (tVar 5) (tCons (tVar 5) tNil)))) (gName 7) (tTest (tOp rNe (tOp (rIxT K) (tVar 12) (tOp (rIxT K) (tVar 7) (tC (.int 0)))) (tOp (rIxT K) (tVar 12) (tOp (rIxT K) (tVar 7) (tC (.int 1)))))) (tVar 7) [7]) (gName 13))
    (tSeq (tIfS (tOr (tTest (tOp (rNeD K) (tVar 13) (tLst tNil))) (tTest (tOp rNe (tCB (rLenX K) (tCons (tFn (sp_likeness w K) (tCons (tVar 5) (tCons (tVar 5) tNil))) tNil)) (tCB (rSum K) (tCons (tLc (iTup K (tVar 12)) (gName 14) tYes (tBMF (rCountT K) (tVar 12) (tCons (tVar 14) tNil)) [14]) tNil)))))
    (tRet (tC (.bl false)))
    tNext)
    (tSeq (tAsg (tTup (tCons (tFn (sp__law_pick w K) (tCons (tVar 1) (tCons (tLst (tCons (tUn rNegI (tC (.int 1))) (tCons (tFld K (tVar 4) ("places" : Str)) (tCons (tC .non) (tCons (tC (.bl true)) (tCons (tC (.str "0")) tNil)))))) tNil))) (tCons (tFn (sp__law_pick w K) (tCons (tVar 1) (tCons (tLst (tCons (tFld K (tVar 5) ("places" : Str)) (tCons (tUn rNegI (tC (.int 1))) (tCons (tC .non) (tCons (tC (.bl false)) (tCons (tTup (tCons (tC (.int 0)) tNil)) tNil)))))) tNil))) tNil))) (gTup K 2 (gCons (gName 15) (gCons (gName 16) gNil))))
    (tSeq (tIfS (tTest (tOp (rNeD K) (LamX.tLam (LT K) (TTf K) (fun Ech => tCall (sp_is_alikeX w K) [] Ech (tCons (tVar 4) (tCons (tVar 15) (tCons (tVar 5) (tCons (tVar 16) tNil)))))) (tTup (tCons (tVar 15) tNil))))
    (tRet (tC (.bl false)))
    tNext)
    (tRet (tOp (rEqD K) (LamX.tLam (LT K) (TTf K) (fun Ech => tCall (sp_is_alikeX w K) [] Ech (tCons (tVar 4) (tCons (tC (.int 0)) (tCons (tVar 5) (tCons (tVar 16) tNil)))))) (tTup (tCons (tVar 16) tNil))))))))))
/-! ## the classes of one book and their numbers -/
theorem cut_take {xs : List V} {n : Nat} (h : n ≤ xs.length) : cutV xs none (some (n : Int)) = xs.take n := by
  unfold cutV
  rw [HT.sIx_none, HT.sIx_nat, Nat.min_eq_left h]
  rfl
section
variable {P : Program} {w : World} {K : PySem.W.Frag} {mg : Str → Option Value} (E : Ctx w K mg)
include E
theorem law_7 {H : Hp} {Q : VK} {p c T : Addr} {n : Nat} {v2 v3 v4 v5 : V} {ps : List V} {A B : Bk} {fs : List Int} {x0 x6 x7 x9 x10 x11 x12 x13 x14 x15 x16 : Option V} (s : LwS K H p c n v2 v3 v4 v5 T ps A B fs) (hn : n ≤ 900000000) (oA : A.Ok) (oB : B.Ok) (q : ∀ H', Q (.bl true) H') :
    t_law_7 P w K { nx := fun _ H' => Q .non H', rt := Q } [x0, some (.ref p), some v2, some v3, some v4, some v5, x6, x7, some (.int (B.sides.length : Nat)), x9, x10, x11, x12, x13, x14, x15, x16] H := by
  have nB := oB.n1
  refine ⟨_, rfl, _, rfl, v3, v3, B, B, rfl, s.b3, s.b3, oB, oB, fun H1 l gs e1 hl c1 len1 => ⟨_, rfl, _, rfl, l, _, rfl, Evl.sq_of hl, fun D hD => ?_⟩⟩
  rw [cut_take (by rw [List.length_map]; omega)]
  rw [← List.map_take]
  have eD := Ex.new (o := .lst ((gs.take B.sides.length).map V.int)) hD
  have ltk : (gs.take B.sides.length).length = B.sides.length := by
    rw [List.length_take]
    omega
  refine ⟨D, gs.take B.sides.length, rfl, Evl.sq_of upd_same, by omega, fun H2 N e2 sN => ?_⟩
  have s2 := ((s.ex e1).ex eD).ex e2
  have lns : (nbrs (gs.take B.sides.length)).length = B.sides.length := by
    rw [nbrs_len]
    exact ltk
  refine ⟨_, rfl, v5, B, rfl, s2.m5, oB, fun H3 T3 f3 e3 lk3 st3 => ⟨_, rfl, ?_⟩⟩
  have ec : cnum f3 B.sides.length = nbrs (gs.take B.sides.length) := cnum_law oB lk3 c1 (by omega)
  rw [ec] at st3
  refine ⟨_, _, (Dt.mk st3 (dta_ints _)).dp, (Dt.mk (sN.ex e3).t (dta_ints _)).dp, ints_shp _, ints_shp _, _, rfl, ?_⟩
  rw [eqv_ints]
  exact law_9 (P := P) E (s2.ex e3) hn oA oB (sN.ex e3) lns (fun f h i j hi hj => num_like oB h c1 (by omega) hi hj) q
end
end K28

set_option Elab.async false
set_option linter.all false
set_option maxRecDepth 100000
set_option maxHeartbeats 4000000
namespace K28
open PySem PySem.Spec PyProof.Rows L2
open Evl (Ex)

def t_law_6 (P : Program) (w : World) (K : PySem.W.Frag) : TS :=
    (tSeq (tFor (iRng1 (tCons (tC (.int 6)) tNil)) (gName 9)
    (tSeq (tPar 10 11 (tCons (tFn (sp__law_draw w K) (tCons (tVar 1) (tCons (tCB (rLenX K) (tCons (tDGet (tVar 2) (tC (.str "sides"))) tNil)) tNil))) (tCons (tFn (sp__law_draw w K) (tCons (tVar 1) (tCons (tVar 8) tNil))) tNil)))
    (tIfS (tNot (tB (tFn (sp__law_is w K) (tCons (tFn (sp_is_alike w K) (tCons (tVar 4) (tCons (tVar 10) (tCons (tVar 5) (tCons (tVar 11) tNil))))) (tCons (tOp (rInT K) (tTup (tCons (tVar 10) (tCons (tVar 11) tNil))) (tVar 6)) tNil)))))
    (tRet (tC (.bl false)))
    tNext)))
    (tSeq (tAsg (tFn (sp__law_numbered w K) (tCons (tSl (rSlL K) (tFn (sp__law_classes w K) (tCons (tVar 3) (tCons (tVar 3) tNil))) tNoPart (tPart (tVar 8))) tNil)) (gName 12))
    (tSeq (tIfS (tTest (tOp (rNeD K) (tFn (sp_classes w K) (tCons (tVar 5) tNil)) (tVar 12)))
    (tRet (tC (.bl false)))
    tNext)
    (tSeq (tAsg (tLc (iTup K (tFn (sp_likeness w K) (tCons (tVar 5) (tCons (tVar 5) tNil)))) (gName 7) (tTest (tOp rNe (tOp (rIxT K) (tVar 12) (tOp (rIxT K) (tVar 7) (tC (.int 0)))) (tOp (rIxT K) (tVar 12) (tOp (rIxT K) (tVar 7) (tC (.int 1)))))) (tVar 7) [7]) (gName 13))
    (tSeq (tIfS (tOr (tTest (tOp (rNeD K) (tVar 13) (tLst tNil))) (tTest (tOp rNe (tCB (rLenX K) (tCons (tFn (sp_likeness w K) (tCons (tVar 5) (tCons (tVar 5) tNil))) tNil)) (tCB (rSum K) (tCons (tLc (iTup K (tVar 12)) (gName 14) tYes (tBMF (rCountT K) (tVar 12) (tCons (tVar 14) tNil)) [14]) tNil)))))
    (tRet (tC (.bl false)))
    tNext)
    (tSeq (tAsg (tTup (tCons (tFn (sp__law_pick w K) (tCons (tVar 1) (tCons (tLst (tCons (tUn rNegI (tC (.int 1))) (tCons (tFld K (tVar 4) ("places" : Str)) (tCons (tC .non) (tCons (tC (.bl true)) (tCons (tC (.str "0")) tNil)))))) tNil))) (tCons (tFn (sp__law_pick w K) (tCons (tVar 1) (tCons (tLst (tCons (tFld K (tVar 5) ("places" : Str)) (tCons (tUn rNegI (tC (.int 1))) (tCons (tC .non) (tCons (tC (.bl false)) (tCons (tTup (tCons (tC (.int 0)) tNil)) tNil)))))) tNil))) tNil))) (gTup K 2 (gCons (gName 15) (gCons (gName 16) gNil))))
    (tSeq (tIfS (tTest (tOp (rNeD K) (LamX.tLam (LT K) (TTf K) (fun Ech => tCall (sp_is_alikeX w K) [] Ech (tCons (tVar 4) (tCons (tVar 15) (tCons (tVar 5) (tCons (tVar 16) tNil)))))) (tTup (tCons (tVar 15) tNil))))
    (tRet (tC (.bl false)))
    tNext)
    (tRet (tOp (rEqD K) (LamX.tLam (LT K) (TTf K) (fun Ech => tCall (sp_is_alikeX w K) [] Ech (tCons (tVar 4) (tCons (tC (.int 0)) (tCons (tVar 5) (tCons (tVar 16) tNil)))))) (tTup (tCons (tVar 16) tNil)))))))))))
def t_law_5 (P : Program) (w : World) (K : PySem.W.Frag) : TS :=
    (tSeq (tAsg (tCB (rLenX K) (tCons (tDGet (tVar 3) (tC (.str "sides"))) tNil)) (gName 8))
    (tSeq (tFor (iRng1 (tCons (tC (.int 6)) tNil)) (gName 9)
    (tSeq (tPar 10 11 (tCons (tFn (sp__law_draw w K) (tCons (tVar 1) (tCons (tCB (rLenX K) (tCons (tDGet (tVar 2) (tC (.str "sides"))) tNil)) tNil))) (tCons (tFn (sp__law_draw w K) (tCons (tVar 1) (tCons (tVar 8) tNil))) tNil)))
    (tIfS (tNot (tB (tFn (sp__law_is w K) (tCons (tFn (sp_is_alike w K) (tCons (tVar 4) (tCons (tVar 10) (tCons (tVar 5) (tCons (tVar 11) tNil))))) (tCons (tOp (rInT K) (tTup (tCons (tVar 10) (tCons (tVar 11) tNil))) (tVar 6)) tNil)))))
    (tRet (tC (.bl false)))
    tNext)))
    (tSeq (tAsg (tFn (sp__law_numbered w K) (tCons (tSl (rSlL K) (tFn (sp__law_classes w K) (tCons (tVar 3) (tCons (tVar 3) tNil))) tNoPart (tPart (tVar 8))) tNil)) (gName 12))
    (tSeq (tIfS (tTest (tOp (rNeD K) (tFn (sp_classes w K) (tCons (tVar 5) tNil)) (tVar 12)))
    (tRet (tC (.bl false)))
    tNext)
    (tSeq (tAsg (tLc (iTup K (tFn (sp_likeness w K) (tCons (tVar 5) (tCons (tVar 5) tNil)))) (gName 7) (tTest (tOp rNe (tOp (rIxT K) (tVar 12) (tOp (rIxT K) (tVar 7) (tC (.int 0)))) (tOp (rIxT K) (tVar 12) (tOp (rIxT K) (tVar 7) (tC (.int 1)))))) (tVar 7) [7]) (gName 13))
    (tSeq (tIfS (tOr (tTest (tOp (rNeD K) (tVar 13) (tLst tNil))) (tTest (tOp rNe (tCB (rLenX K) (tCons (tFn (sp_likeness w K) (tCons (tVar 5) (tCons (tVar 5) tNil))) tNil)) (tCB (rSum K) (tCons (tLc (iTup K (tVar 12)) (gName 14) tYes (tBMF (rCountT K) (tVar 12) (tCons (tVar 14) tNil)) [14]) tNil)))))
    (tRet (tC (.bl false)))
    tNext)
    (tSeq (tAsg (tTup (tCons (tFn (sp__law_pick w K) (tCons (tVar 1) (tCons (tLst (tCons (tUn rNegI (tC (.int 1))) (tCons (tFld K (tVar 4) ("places" : Str)) (tCons (tC .non) (tCons (tC (.bl true)) (tCons (tC (.str "0")) tNil)))))) tNil))) (tCons (tFn (sp__law_pick w K) (tCons (tVar 1) (tCons (tLst (tCons (tFld K (tVar 5) ("places" : Str)) (tCons (tUn rNegI (tC (.int 1))) (tCons (tC .non) (tCons (tC (.bl false)) (tCons (tTup (tCons (tC (.int 0)) tNil)) tNil)))))) tNil))) tNil))) (gTup K 2 (gCons (gName 15) (gCons (gName 16) gNil))))
    (tSeq (tIfS (tTest (tOp (rNeD K) (LamX.tLam (LT K) (TTf K) (fun Ech => tCall (sp_is_alikeX w K) [] Ech (tCons (tVar 4) (tCons (tVar 15) (tCons (tVar 5) (tCons (tVar 16) tNil)))))) (tTup (tCons (tVar 15) tNil))))
    (tRet (tC (.bl false)))
    tNext)
    (tRet (tOp (rEqD K) (LamX.tLam (LT K) (TTf K) (fun Ech => tCall (sp_is_alikeX w K) [] Ech (tCons (tVar 4) (tCons (tC (.int 0)) (tCons (tVar 5) (tCons (tVar 16) tNil)))))) (tTup (tCons (tVar 16) tNil))))))))))))
/-! ## is_alike at drawn pairs -/
section
variable {P : Program} {w : World} {K : PySem.W.Frag} {mg : Str → Option Value} (E : Ctx w K mg)
include E
theorem law_6 {H : Hp} {Q : VK} {p c T : Addr} {n : Nat} {v2 v3 v4 v5 : V} {ps : List V} {A B : Bk} {fs : List Int} {x0 x7 x12 x13 x14 x15 x16 : Option V} (s : LwS K H p c n v2 v3 v4 v5 T ps A B fs) (hn : n ≤ 800000000) (oA : A.Ok) (oB : B.Ok) (cls : ClsOk A B fs) (q : ∀ H', Q (.bl true) H') :
    t_law_6 P w K { nx := fun _ H' => Q .non H', rt := Q } [x0, some (.ref p), some v2, some v3, some v4, some v5, some (.ref T), x7, some (.int (B.sides.length : Nat)), none, none, none, x12, x13, x14, x15, x16] H := by
  have a0 := oA.n0
  have a1 := oA.n1
  have b0 := oB.n0
  have b1 := oB.n1
  refine ⟨6, rfl, by decide, by decide, ?_⟩
  refine for_it (walk_range (n := 6)) (fun i σ H' => (∃ x9 x10 x11, σ = [x0, some (.ref p), some v2, some v3, some v4, some v5, some (.ref T), x7, some (.int (B.sides.length : Nat)), x9, x10, x11, x12, x13, x14, x15, x16]) ∧ LwS K H' p c (n + 2 * i) v2 v3 v4 v5 T ps A B fs) ⟨⟨none, none, none, rfl⟩, s⟩ (fun _ _ _ _ _ => trivial) ?_ ?_
  · rintro i x σ H1 H1' hi ⟨⟨x9, x10, x11, rfl⟩, s1⟩ ⟨rfl, hx⟩
    obtain ⟨oa, sa, ma, ga, amss, agss, rfl, lwA⟩ := id s1.b2
    refine ⟨_, rfl, _, rfl, oa, _, rfl, lwA.gs, _, _, rfl, .inl ⟨_, Evl.sq_of lwA.s, rfl⟩, p, c, _, _, rfl, s1.pen, by omega, by rw [List.length_map]; omega, by rw [List.length_map]; omega, fun H2 u d2 p2 u0 u1 => ?_⟩
    rw [List.length_map] at u1
    refine ⟨_, rfl, _, rfl, p, c, _, _, rfl, p2, by omega, by omega, by omega, fun H3 v d3 p3 w0 w1 => ⟨_, _, rfl, ?_⟩⟩
    obtain ⟨un, rfl⟩ : ∃ un : Nat, u = (un : Int) := ⟨u.toNat, by omega⟩
    obtain ⟨vn, rfl⟩ : ∃ vn : Nat, v = (vn : Int) := ⟨v.toNat, by omega⟩
    have s3 := s1.but (d2.trans d3) p3
    have hu : un < A.sides.length := by omega
    have hv : vn < B.sides.length := by omega
    refine ⟨_, rfl, _, rfl, _, rfl, _, rfl, v4, v5, A, B, un, vn, rfl, s3.m4, s3.m5, oA, oB, hu, hv, fun H4 z e4 lk => ⟨_, rfl, _, rfl, (by show 2 ≤ sizeLine; decide), fun U hU => ?_⟩⟩
    have eU := Ex.new (o := .tup [.int (un : Nat), .int (vn : Nat)]) hU
    have s4 := (s3.ex e4).ex eU
    refine ⟨_, rfl, prD (un, vn), (lwAl fs A.sides.length B.sides.length).map prD, (Dt.mk (Evl.st_of upd_same) (.cons (.int _) (.one (.int _)))).dp, (Dt.mk s4.st s4.al).dp, pr_shp _, prs_shp _, ?_⟩
    rw [any_pr]
    have same : z = decide ((un, vn) ∈ lwAl fs A.sides.length B.sides.length) := by
      rw [Bool.eq_iff_iff, lk, decide_eq_true_iff, lk_iff oA oB, ← cls_ab oA oB cls hu hv]
      unfold lwAl
      rw [List.mem_filter]
      exact ⟨fun h => ⟨mem_pairs.mpr ⟨hu, hv⟩, decide_eq_true h⟩, fun h => of_decide_eq_true h.2⟩
    rw [← same]
    refine ⟨z, z, rfl, _, rfl, ?_⟩
    rw [decide_eq_true rfl]
    exact ⟨⟨_, _, _, rfl⟩, s4⟩
  · rintro σ H1 ⟨⟨x9, x10, x11, rfl⟩, s1⟩
    exact law_7 (P := P) E s1 (by omega) oA oB q
theorem law_5 {H : Hp} {Q : VK} {p c T : Addr} {n : Nat} {v2 v3 v4 v5 : V} {ps : List V} {A B : Bk} {fs : List Int} {x0 x7 x8 x12 x13 x14 x15 x16 : Option V} (s : LwS K H p c n v2 v3 v4 v5 T ps A B fs) (hn : n ≤ 800000000) (oA : A.Ok) (oB : B.Ok) (cls : ClsOk A B fs) (q : ∀ H', Q (.bl true) H') :
    t_law_5 P w K { nx := fun _ H' => Q .non H', rt := Q } [x0, some (.ref p), some v2, some v3, some v4, some v5, some (.ref T), x7, x8, none, none, none, x12, x13, x14, x15, x16] H := by
  obtain ⟨ob, sb, mb, gb, bmss, bgss, rfl, lwB⟩ := id s.b3
  refine ⟨_, rfl, ob, _, rfl, lwB.gs, _, _, rfl, .inl ⟨_, Evl.sq_of lwB.s, rfl⟩, ?_⟩
  rw [List.length_map]
  exact law_6 (P := P) E s hn oA oB cls q
end
end K28

set_option Elab.async false
set_option linter.all false
set_option maxRecDepth 100000
set_option maxHeartbeats 4000000
namespace K28
open PySem PySem.Spec PyProof.Rows L2
open Evl (Ex)

def t_law_4 (P : Program) (w : World) (K : PySem.W.Frag) : TS :=
    (tSeq (tIfS (tOr (tTest (tOp (rNeD K) (tFn (sp_likeness w K) (tCons (tVar 4) (tCons (tVar 5) tNil))) (tVar 6))) (tTest (tOp (rNeD K) (tFn (sp_likeness w K) (tCons (tVar 5) (tCons (tVar 4) tNil))) (tCB (rTupQ K) (tCons (tCB (rSortU K 2 4294967296) (tCons (tLc (iTup K (tVar 6)) (gName 7) tYes (tTup (tCons (tOp (rIxT K) (tVar 7) (tC (.int 1))) (tCons (tOp (rIxT K) (tVar 7) (tC (.int 0))) tNil))) [7]) tNil)) tNil)))))
    (tRet (tC (.bl false)))
    tNext)
    (tSeq (tAsg (tCB (rLenX K) (tCons (tDGet (tVar 3) (tC (.str "sides"))) tNil)) (gName 8))
    (tSeq (tFor (iRng1 (tCons (tC (.int 6)) tNil)) (gName 9)
    (tSeq (tPar 10 11 (tCons (tFn (sp__law_draw w K) (tCons (tVar 1) (tCons (tCB (rLenX K) (tCons (tDGet (tVar 2) (tC (.str "sides"))) tNil)) tNil))) (tCons (tFn (sp__law_draw w K) (tCons (tVar 1) (tCons (tVar 8) tNil))) tNil)))
    (tIfS (tNot (tB (tFn (sp__law_is w K) (tCons (tFn (sp_is_alike w K) (tCons (tVar 4) (tCons (tVar 10) (tCons (tVar 5) (tCons (tVar 11) tNil))))) (tCons (tOp (rInT K) (tTup (tCons (tVar 10) (tCons (tVar 11) tNil))) (tVar 6)) tNil)))))
    (tRet (tC (.bl false)))
    tNext)))
    (tSeq (tAsg (tFn (sp__law_numbered w K) (tCons (tSl (rSlL K) (tFn (sp__law_classes w K) (tCons (tVar 3) (tCons (tVar 3) tNil))) tNoPart (tPart (tVar 8))) tNil)) (gName 12))
    (tSeq (tIfS (tTest (tOp (rNeD K) (tFn (sp_classes w K) (tCons (tVar 5) tNil)) (tVar 12)))
    (tRet (tC (.bl false)))
    tNext)
    (tSeq (tAsg (tLc (iTup K (tFn (sp_likeness w K) (tCons (tVar 5) (tCons (tVar 5) tNil)))) (gName 7) (tTest (tOp rNe (tOp (rIxT K) (tVar 12) (tOp (rIxT K) (tVar 7) (tC (.int 0)))) (tOp (rIxT K) (tVar 12) (tOp (rIxT K) (tVar 7) (tC (.int 1)))))) (tVar 7) [7]) (gName 13))
    (tSeq (tIfS (tOr (tTest (tOp (rNeD K) (tVar 13) (tLst tNil))) (tTest (tOp rNe (tCB (rLenX K) (tCons (tFn (sp_likeness w K) (tCons (tVar 5) (tCons (tVar 5) tNil))) tNil)) (tCB (rSum K) (tCons (tLc (iTup K (tVar 12)) (gName 14) tYes (tBMF (rCountT K) (tVar 12) (tCons (tVar 14) tNil)) [14]) tNil)))))
    (tRet (tC (.bl false)))
    tNext)
    (tSeq (tAsg (tTup (tCons (tFn (sp__law_pick w K) (tCons (tVar 1) (tCons (tLst (tCons (tUn rNegI (tC (.int 1))) (tCons (tFld K (tVar 4) ("places" : Str)) (tCons (tC .non) (tCons (tC (.bl true)) (tCons (tC (.str "0")) tNil)))))) tNil))) (tCons (tFn (sp__law_pick w K) (tCons (tVar 1) (tCons (tLst (tCons (tFld K (tVar 5) ("places" : Str)) (tCons (tUn rNegI (tC (.int 1))) (tCons (tC .non) (tCons (tC (.bl false)) (tCons (tTup (tCons (tC (.int 0)) tNil)) tNil)))))) tNil))) tNil))) (gTup K 2 (gCons (gName 15) (gCons (gName 16) gNil))))
    (tSeq (tIfS (tTest (tOp (rNeD K) (LamX.tLam (LT K) (TTf K) (fun Ech => tCall (sp_is_alikeX w K) [] Ech (tCons (tVar 4) (tCons (tVar 15) (tCons (tVar 5) (tCons (tVar 16) tNil)))))) (tTup (tCons (tVar 15) tNil))))
    (tRet (tC (.bl false)))
    tNext)
    (tRet (tOp (rEqD K) (LamX.tLam (LT K) (TTf K) (fun Ech => tCall (sp_is_alikeX w K) [] Ech (tCons (tVar 4) (tCons (tC (.int 0)) (tCons (tVar 5) (tCons (tVar 16) tNil)))))) (tTup (tCons (tVar 16) tNil)))))))))))))
/-! ## likeness, turned round too -/
theorem uncons_dt {K : PySem.W.Frag} {H : Hp} {α : Type} {g : α → PyData} {x : V} {xs : List V} {l : List α} (h : DtAll K H (x :: xs) (l.map g)) : ∃ a m, l = a :: m ∧ Dt K H x (g a) ∧ DtAll K H xs (m.map g) := by
  cases l with
  | nil =>
    have := h.1
    simp at this
  | cons a m => exact ⟨a, m, rfl, h.2 0 x _ rfl rfl, by have := h.1; simpa using this, fun i u d p q => h.2 (i + 1) u d p q⟩
theorem perm_dt {K : PySem.W.Frag} {H : Hp} {α : Type} {g : α → PyData} {xs ys : List V} (p : xs.Perm ys) : ∀ {l : List α}, DtAll K H ys (l.map g) → ∃ l2 : List α, l2.Perm l ∧ DtAll K H xs (l2.map g) := by
  induction p with
  | nil => exact fun {l} h => ⟨l, .refl _, h⟩
  | cons x _ ih =>
    intro l h
    obtain ⟨a, m, rfl, h1, h2⟩ := uncons_dt h
    obtain ⟨m', q, h3⟩ := ih h2
    exact ⟨a :: m', q.cons a, .cons h1 h3⟩
  | swap x y z =>
    intro l h
    obtain ⟨a, m, rfl, h1, h2⟩ := uncons_dt h
    obtain ⟨b, m2, rfl, h3, h4⟩ := uncons_dt h2
    exact ⟨b :: a :: m2, .swap _ _ _, .cons h3 (.cons h1 h4)⟩
  | trans _ _ ih1 ih2 =>
    intro l h
    obtain ⟨m, q, h1⟩ := ih2 h
    obtain ⟨m2, q2, h2⟩ := ih1 h1
    exact ⟨m2, q2.trans q, h2⟩
theorem dt_tupI {K : PySem.W.Frag} {H : Hp} {v : V} {z : Nat × Nat} (h : Dt K H v (prD z)) : TupI K H v [(z.1 : Int), (z.2 : Int)] := by
  obtain ⟨a, xs, rfl, s, al⟩ := h.tupD
  obtain ⟨u, w, rfl, d1, d2⟩ := al.two
  rw [d1.intD, d2.intD] at s
  exact ⟨a, rfl, s⟩
theorem bd_pr {z : Nat × Nat} (h1 : z.1 ≤ 100) (h2 : z.2 ≤ 100) : TS.Bd 4294967296 [(z.1 : Int), (z.2 : Int)] := fun m hm => by
  simp only [List.mem_cons, List.not_mem_nil, or_false] at hm
  omega
theorem pw_nat {K : PySem.W.Frag} {H : Hp} {ys : List V} {vs : List (Nat × Nat)} (al : DtAll K H ys (vs.map prD)) (bd : ∀ z ∈ vs, z.1 ≤ 100 ∧ z.2 ≤ 100) (pw : ys.Pairwise (fun x y => ∀ n m, TupI K H x n → TupI K H y m → TS.code 4294967296 n ≤ TS.code 4294967296 m)) :
    vs.Pairwise fun a b => NatLt a b ∨ a = b := by
  rw [List.pairwise_iff_getElem] at pw ⊢
  intro i j hi hj ij
  have ly : ys.length = vs.length := by
    have := al.1
    rw [List.length_map] at this
    exact this
  have di := al.2 i ys[i] (prD vs[i]) (List.getElem?_eq_getElem (by omega)) (by rw [List.getElem?_map, List.getElem?_eq_getElem hi]; rfl)
  have dj := al.2 j ys[j] (prD vs[j]) (List.getElem?_eq_getElem (by omega)) (by rw [List.getElem?_map, List.getElem?_eq_getElem hj]; rfl)
  have le := pw i j (by omega) (by omega) ij _ _ (dt_tupI di) (dt_tupI dj)
  obtain ⟨p1, p2⟩ := bd _ (List.getElem_mem hi)
  obtain ⟨q1, q2⟩ := bd _ (List.getElem_mem hj)
  generalize vs[i] = a at *
  generalize vs[j] = b at *
  have z := code_lex (bd_pr p1 p2) (bd_pr q1 q2) le
  unfold NatLt
  rcases z with z | ⟨z1, z2⟩
  · exact .inl (.inl (by omega))
  · by_cases e : a.2 = b.2
    · exact .inr (Prod.ext (by omega) e)
    · exact .inl (.inr ⟨by omega, by omega⟩)
section
variable {P : Program} {w : World} {K : PySem.W.Frag} {mg : Str → Option Value} (E : Ctx w K mg)
include E
theorem law_4 {H : Hp} {Q : VK} {p c T : Addr} {n : Nat} {v2 v3 v4 v5 : V} {ps : List V} {A B : Bk} {fs : List Int} {x0 x7 x8 x12 x13 x14 x15 x16 : Option V} (s : LwS K H p c n v2 v3 v4 v5 T ps A B fs) (hn : n ≤ 800000000) (oA : A.Ok) (oB : B.Ok) (a4 : A.sides.length ≤ 4) (cls : ClsOk A B fs) (q : ∀ H', Q (.bl true) H') :
    t_law_4 P w K { nx := fun _ H' => Q .non H', rt := Q } [x0, some (.ref p), some v2, some v3, some v4, some v5, some (.ref T), x7, x8, none, none, none, x12, x13, x14, x15, x16] H := by
  have a1 := oA.n1
  have b1 := oB.n1
  refine ⟨_, rfl, _, rfl, v4, v5, A, B, rfl, s.m4, s.m5, oA, oB, fun H1 T1 ps1 f1 e1 st1 lk1 al1 => ⟨_, rfl, ?_⟩⟩
  have s1 := s.ex e1
  refine ⟨_, _, (Dt.mk st1 al1).dp, (Dt.mk s1.st s1.al).dp, prs_shp _, prs_shp _, _, rfl, ?_⟩
  rw [lks_lwAl oA oB lk1 cls, eqv_prs]
  refine ⟨_, rfl, _, rfl, v5, v4, B, A, rfl, s1.m5, s1.m4, oB, oA, fun H2 T2 ps2 f2 e2 st2 lk2 al2 => ⟨_, rfl, T, rfl, ⟨_, (s1.ex e2).st⟩, fun D hD => ?_⟩⟩
  have s2 := s1.ex e2
  have lps : ps.length = (lwAl fs A.sides.length B.sides.length).length := by
    have := s2.al.1
    rw [List.length_map] at this
    exact this
  have bdl : ∀ z ∈ lwAl fs A.sides.length B.sides.length, z.1 < A.sides.length ∧ z.2 < B.sides.length := fun z hz => mem_pairs.mp (List.mem_filter.mp hz).1
  have few : (lwAl fs A.sides.length B.sides.length).length < 64 := by
    unfold lwAl
    refine Nat.lt_of_le_of_lt (List.length_filter_le _ _) ?_
    rw [pairs_len]
    have : A.sides.length * B.sides.length ≤ 4 * 7 := Nat.mul_le_mul a4 b1
    omega
  generalize hlw : lwAl fs A.sides.length B.sides.length = lw at *
  refine lc_map noS (fun _ z => z.elim) hD (walk_tup (xs := ps)) (by omega) (fun i v H' => ∃ z, lw[i]? = some z ∧ Dt K H' v (prD (swp z))) (fun _ _ => True) (fun _ H' e _ => Evl.ex_t e.ex s2.st) trivial (fun i v H' zs hl _ ⟨z, h1, h2⟩ => ⟨z, h1, h2.tk (.lst hl)⟩) (fun _ _ _ _ _ _ => trivial)
    (fun i v H' H'' j _ _ e _ _ ⟨z, h1, h2⟩ => ⟨z, h1, h2.tk (.ex e.ex)⟩) ?_ ?_
  · rintro i y H3 H3' k hi hl e3 _ ⟨rfl, hy⟩ kk
    obtain ⟨d, hd, dy⟩ := s2.al.get hy
    rw [hlw, List.getElem?_map] at hd
    cases hz : lw[i]? with
    | none =>
      rw [hz] at hd
      cases hd
    | some z =>
      rw [hz] at hd
      cases hd
      obtain ⟨ya, ys, rfl, sy, ty⟩ := (dy.tk (.ex e3.ex)).tupD
      obtain ⟨u, v, rfl, d1, d2⟩ := ty.two
      rw [d1.intD, d2.intD] at sy
      refine ⟨rfl, _, rfl, ya, _, 1, _, rfl, rfl, sy, rfl, _, rfl, ya, _, 0, _, rfl, rfl, sy, rfl, (by show 2 ≤ sizeLine; decide), fun U hU => kk (.ref U) _ (.of (Ex.new hU)) ⟨z, hz, ?_⟩ trivial⟩
      exact Dt.mk (Evl.st_of upd_same) (.cons (.int _) (.one (.int _)))
  · intro acc H3 e3 hl3 la zs _
    have s3 := s2.ex e3.ex
    have ala : DtAll K H3 acc ((lw.map swp).map prD) := by
      refine ⟨by rw [List.length_map, List.length_map]; omega, fun i v d h1 h2 => ?_⟩
      obtain ⟨z, h3, h4⟩ := zs i v h1
      rw [List.getElem?_map, List.getElem?_map, h3] at h2
      cases h2
      exact h4
    have bda : ∀ z ∈ lw.map swp, z.1 ≤ 100 ∧ z.2 ≤ 100 := fun z hz => by
      obtain ⟨y, hy, rfl⟩ := List.mem_map.mp hz
      obtain ⟨h1, h2⟩ := bdl y hy
      exact ⟨by show y.2 ≤ 100; omega, by show y.1 ≤ 100; omega⟩
    refine ⟨D, acc, rfl, Evl.sq_of hl3, by omega, fun x hx => ?_, fun ys D2 pm pw hD2 => ?_⟩
    · obtain ⟨i, hi, rfl⟩ := List.getElem_of_mem hx
      obtain ⟨z, h3, h4⟩ := zs i _ (List.getElem?_eq_getElem hi)
      obtain ⟨h1, h2⟩ := bda (swp z) (List.mem_map.mpr ⟨z, List.mem_of_getElem? h3, rfl⟩)
      exact ⟨_, dt_tupI h4, rfl, bd_pr h1 h2⟩
    · obtain ⟨vs, pv, alv⟩ := perm_dt pm ala
      have pwv := pw_nat alv (fun z hz => bda z (pv.mem_iff.mp hz)) pw
      have ev : vs = lks f2 B.sides.length A.sides.length := turned oA oB lk2 cls (by rw [hlw]; exact pv) pwv
      have eD2 := Ex.new (o := .lst ys) hD2
      refine ⟨D2, ys, rfl, .inl (Evl.sq_of upd_same), fun T3 H4 e4 st4 => ?_⟩
      have e24 := (e3.ex.trans eD2).trans e4
      refine ⟨_, _, (Dt.mk (Evl.ex_t e24 st2) (al2.tk (.ex e24))).dp, (Dt.mk st4 ((alv.tk (.ex eD2)).tk (.ex e4))).dp, prs_shp _, prs_shp _, _, rfl, ?_⟩
      rw [ev, eqv_prs]
      exact law_5 (P := P) E (s2.ex e24) hn oA oB cls q
end
end K28

set_option Elab.async false
set_option linter.all false
set_option maxRecDepth 100000
set_option maxHeartbeats 4000000
namespace K28
open PySem PySem.Spec PyProof.Rows L2
open Evl (Ex)

def t_law_3 (P : Program) (w : World) (K : PySem.W.Frag) : TS :=
    (tSeq (tAsg (tTup (tCons (tFn (sp__law_made_book w K) (tCons (tVar 1) (tCons (tVar 2) tNil))) (tCons (tFn (sp__law_made_book w K) (tCons (tVar 1) (tCons (tVar 3) tNil))) (tCons (tFn (sp__law_alike w K) (tCons (tVar 2) (tCons (tVar 3) tNil))) tNil)))) (gTup K 3 (gCons (gName 4) (gCons (gName 5) (gCons (gName 6) gNil)))))
    (tSeq (tIfS (tOr (tTest (tOp (rNeD K) (tFn (sp_likeness w K) (tCons (tVar 4) (tCons (tVar 5) tNil))) (tVar 6))) (tTest (tOp (rNeD K) (tFn (sp_likeness w K) (tCons (tVar 5) (tCons (tVar 4) tNil))) (tCB (rTupQ K) (tCons (tCB (rSortU K 2 4294967296) (tCons (tLc (iTup K (tVar 6)) (gName 7) tYes (tTup (tCons (tOp (rIxT K) (tVar 7) (tC (.int 1))) (tCons (tOp (rIxT K) (tVar 7) (tC (.int 0))) tNil))) [7]) tNil)) tNil)))))
    (tRet (tC (.bl false)))
    tNext)
    (tSeq (tAsg (tCB (rLenX K) (tCons (tDGet (tVar 3) (tC (.str "sides"))) tNil)) (gName 8))
    (tSeq (tFor (iRng1 (tCons (tC (.int 6)) tNil)) (gName 9)
    (tSeq (tPar 10 11 (tCons (tFn (sp__law_draw w K) (tCons (tVar 1) (tCons (tCB (rLenX K) (tCons (tDGet (tVar 2) (tC (.str "sides"))) tNil)) tNil))) (tCons (tFn (sp__law_draw w K) (tCons (tVar 1) (tCons (tVar 8) tNil))) tNil)))
    (tIfS (tNot (tB (tFn (sp__law_is w K) (tCons (tFn (sp_is_alike w K) (tCons (tVar 4) (tCons (tVar 10) (tCons (tVar 5) (tCons (tVar 11) tNil))))) (tCons (tOp (rInT K) (tTup (tCons (tVar 10) (tCons (tVar 11) tNil))) (tVar 6)) tNil)))))
    (tRet (tC (.bl false)))
    tNext)))
    (tSeq (tAsg (tFn (sp__law_numbered w K) (tCons (tSl (rSlL K) (tFn (sp__law_classes w K) (tCons (tVar 3) (tCons (tVar 3) tNil))) tNoPart (tPart (tVar 8))) tNil)) (gName 12))
    (tSeq (tIfS (tTest (tOp (rNeD K) (tFn (sp_classes w K) (tCons (tVar 5) tNil)) (tVar 12)))
    (tRet (tC (.bl false)))
    tNext)
    (tSeq (tAsg (tLc (iTup K (tFn (sp_likeness w K) (tCons (tVar 5) (tCons (tVar 5) tNil)))) (gName 7) (tTest (tOp rNe (tOp (rIxT K) (tVar 12) (tOp (rIxT K) (tVar 7) (tC (.int 0)))) (tOp (rIxT K) (tVar 12) (tOp (rIxT K) (tVar 7) (tC (.int 1)))))) (tVar 7) [7]) (gName 13))
    (tSeq (tIfS (tOr (tTest (tOp (rNeD K) (tVar 13) (tLst tNil))) (tTest (tOp rNe (tCB (rLenX K) (tCons (tFn (sp_likeness w K) (tCons (tVar 5) (tCons (tVar 5) tNil))) tNil)) (tCB (rSum K) (tCons (tLc (iTup K (tVar 12)) (gName 14) tYes (tBMF (rCountT K) (tVar 12) (tCons (tVar 14) tNil)) [14]) tNil)))))
    (tRet (tC (.bl false)))
    tNext)
    (tSeq (tAsg (tTup (tCons (tFn (sp__law_pick w K) (tCons (tVar 1) (tCons (tLst (tCons (tUn rNegI (tC (.int 1))) (tCons (tFld K (tVar 4) ("places" : Str)) (tCons (tC .non) (tCons (tC (.bl true)) (tCons (tC (.str "0")) tNil)))))) tNil))) (tCons (tFn (sp__law_pick w K) (tCons (tVar 1) (tCons (tLst (tCons (tFld K (tVar 5) ("places" : Str)) (tCons (tUn rNegI (tC (.int 1))) (tCons (tC .non) (tCons (tC (.bl false)) (tCons (tTup (tCons (tC (.int 0)) tNil)) tNil)))))) tNil))) tNil))) (gTup K 2 (gCons (gName 15) (gCons (gName 16) gNil))))
    (tSeq (tIfS (tTest (tOp (rNeD K) (LamX.tLam (LT K) (TTf K) (fun Ech => tCall (sp_is_alikeX w K) [] Ech (tCons (tVar 4) (tCons (tVar 15) (tCons (tVar 5) (tCons (tVar 16) tNil)))))) (tTup (tCons (tVar 15) tNil))))
    (tRet (tC (.bl false)))
    tNext)
    (tRet (tOp (rEqD K) (LamX.tLam (LT K) (TTf K) (fun Ech => tCall (sp_is_alikeX w K) [] Ech (tCons (tVar 4) (tCons (tC (.int 0)) (tCons (tVar 5) (tCons (tVar 16) tNil)))))) (tTup (tCons (tVar 16) tNil))))))))))))))
def t_law_2 (P : Program) (w : World) (K : PySem.W.Frag) : TS :=
    (tSeq (tAsg (tIf (tTest (tOp rEq (tFn (sp__law_draw w K) (tCons (tVar 1) (tCons (tC (.int 6)) tNil))) (tC (.int 0)))) (tFn (sp__law_drawn_book w K) (tCons (tVar 1) tNil)) (tFn (sp__law_near_twin w K) (tCons (tVar 1) (tCons (tVar 2) (tCons (tC (.int 3)) tNil))))) (gName 3))
    (tSeq (tAsg (tTup (tCons (tFn (sp__law_made_book w K) (tCons (tVar 1) (tCons (tVar 2) tNil))) (tCons (tFn (sp__law_made_book w K) (tCons (tVar 1) (tCons (tVar 3) tNil))) (tCons (tFn (sp__law_alike w K) (tCons (tVar 2) (tCons (tVar 3) tNil))) tNil)))) (gTup K 3 (gCons (gName 4) (gCons (gName 5) (gCons (gName 6) gNil)))))
    (tSeq (tIfS (tOr (tTest (tOp (rNeD K) (tFn (sp_likeness w K) (tCons (tVar 4) (tCons (tVar 5) tNil))) (tVar 6))) (tTest (tOp (rNeD K) (tFn (sp_likeness w K) (tCons (tVar 5) (tCons (tVar 4) tNil))) (tCB (rTupQ K) (tCons (tCB (rSortU K 2 4294967296) (tCons (tLc (iTup K (tVar 6)) (gName 7) tYes (tTup (tCons (tOp (rIxT K) (tVar 7) (tC (.int 1))) (tCons (tOp (rIxT K) (tVar 7) (tC (.int 0))) tNil))) [7]) tNil)) tNil)))))
    (tRet (tC (.bl false)))
    tNext)
    (tSeq (tAsg (tCB (rLenX K) (tCons (tDGet (tVar 3) (tC (.str "sides"))) tNil)) (gName 8))
    (tSeq (tFor (iRng1 (tCons (tC (.int 6)) tNil)) (gName 9)
    (tSeq (tPar 10 11 (tCons (tFn (sp__law_draw w K) (tCons (tVar 1) (tCons (tCB (rLenX K) (tCons (tDGet (tVar 2) (tC (.str "sides"))) tNil)) tNil))) (tCons (tFn (sp__law_draw w K) (tCons (tVar 1) (tCons (tVar 8) tNil))) tNil)))
    (tIfS (tNot (tB (tFn (sp__law_is w K) (tCons (tFn (sp_is_alike w K) (tCons (tVar 4) (tCons (tVar 10) (tCons (tVar 5) (tCons (tVar 11) tNil))))) (tCons (tOp (rInT K) (tTup (tCons (tVar 10) (tCons (tVar 11) tNil))) (tVar 6)) tNil)))))
    (tRet (tC (.bl false)))
    tNext)))
    (tSeq (tAsg (tFn (sp__law_numbered w K) (tCons (tSl (rSlL K) (tFn (sp__law_classes w K) (tCons (tVar 3) (tCons (tVar 3) tNil))) tNoPart (tPart (tVar 8))) tNil)) (gName 12))
    (tSeq (tIfS (tTest (tOp (rNeD K) (tFn (sp_classes w K) (tCons (tVar 5) tNil)) (tVar 12)))
    (tRet (tC (.bl false)))
    tNext)
    (tSeq (tAsg (tLc (iTup K (tFn (sp_likeness w K) (tCons (tVar 5) (tCons (tVar 5) tNil)))) (gName 7) (tTest (tOp rNe (tOp (rIxT K) (tVar 12) (tOp (rIxT K) (tVar 7) (tC (.int 0)))) (tOp (rIxT K) (tVar 12) (tOp (rIxT K) (tVar 7) (tC (.int 1)))))) (tVar 7) [7]) (gName 13))
    (tSeq (tIfS (tOr (tTest (tOp (rNeD K) (tVar 13) (tLst tNil))) (tTest (tOp rNe (tCB (rLenX K) (tCons (tFn (sp_likeness w K) (tCons (tVar 5) (tCons (tVar 5) tNil))) tNil)) (tCB (rSum K) (tCons (tLc (iTup K (tVar 12)) (gName 14) tYes (tBMF (rCountT K) (tVar 12) (tCons (tVar 14) tNil)) [14]) tNil)))))
    (tRet (tC (.bl false)))
    tNext)
    (tSeq (tAsg (tTup (tCons (tFn (sp__law_pick w K) (tCons (tVar 1) (tCons (tLst (tCons (tUn rNegI (tC (.int 1))) (tCons (tFld K (tVar 4) ("places" : Str)) (tCons (tC .non) (tCons (tC (.bl true)) (tCons (tC (.str "0")) tNil)))))) tNil))) (tCons (tFn (sp__law_pick w K) (tCons (tVar 1) (tCons (tLst (tCons (tFld K (tVar 5) ("places" : Str)) (tCons (tUn rNegI (tC (.int 1))) (tCons (tC .non) (tCons (tC (.bl false)) (tCons (tTup (tCons (tC (.int 0)) tNil)) tNil)))))) tNil))) tNil))) (gTup K 2 (gCons (gName 15) (gCons (gName 16) gNil))))
    (tSeq (tIfS (tTest (tOp (rNeD K) (LamX.tLam (LT K) (TTf K) (fun Ech => tCall (sp_is_alikeX w K) [] Ech (tCons (tVar 4) (tCons (tVar 15) (tCons (tVar 5) (tCons (tVar 16) tNil)))))) (tTup (tCons (tVar 15) tNil))))
    (tRet (tC (.bl false)))
    tNext)
    (tRet (tOp (rEqD K) (LamX.tLam (LT K) (TTf K) (fun Ech => tCall (sp_is_alikeX w K) [] Ech (tCons (tVar 4) (tCons (tC (.int 0)) (tCons (tVar 5) (tCons (tVar 16) tNil)))))) (tTup (tCons (tVar 16) tNil)))))))))))))))
def t_law_1 (P : Program) (w : World) (K : PySem.W.Frag) : TS :=
    (tSeq (tAsg (tFn (sp__law_drawn_book w K) (tCons (tVar 1) tNil)) (gName 2))
    (tSeq (tAsg (tIf (tTest (tOp rEq (tFn (sp__law_draw w K) (tCons (tVar 1) (tCons (tC (.int 6)) tNil))) (tC (.int 0)))) (tFn (sp__law_drawn_book w K) (tCons (tVar 1) tNil)) (tFn (sp__law_near_twin w K) (tCons (tVar 1) (tCons (tVar 2) (tCons (tC (.int 3)) tNil))))) (gName 3))
    (tSeq (tAsg (tTup (tCons (tFn (sp__law_made_book w K) (tCons (tVar 1) (tCons (tVar 2) tNil))) (tCons (tFn (sp__law_made_book w K) (tCons (tVar 1) (tCons (tVar 3) tNil))) (tCons (tFn (sp__law_alike w K) (tCons (tVar 2) (tCons (tVar 3) tNil))) tNil)))) (gTup K 3 (gCons (gName 4) (gCons (gName 5) (gCons (gName 6) gNil)))))
    (tSeq (tIfS (tOr (tTest (tOp (rNeD K) (tFn (sp_likeness w K) (tCons (tVar 4) (tCons (tVar 5) tNil))) (tVar 6))) (tTest (tOp (rNeD K) (tFn (sp_likeness w K) (tCons (tVar 5) (tCons (tVar 4) tNil))) (tCB (rTupQ K) (tCons (tCB (rSortU K 2 4294967296) (tCons (tLc (iTup K (tVar 6)) (gName 7) tYes (tTup (tCons (tOp (rIxT K) (tVar 7) (tC (.int 1))) (tCons (tOp (rIxT K) (tVar 7) (tC (.int 0))) tNil))) [7]) tNil)) tNil)))))
    (tRet (tC (.bl false)))
    tNext)
    (tSeq (tAsg (tCB (rLenX K) (tCons (tDGet (tVar 3) (tC (.str "sides"))) tNil)) (gName 8))
    (tSeq (tFor (iRng1 (tCons (tC (.int 6)) tNil)) (gName 9)
    (tSeq (tPar 10 11 (tCons (tFn (sp__law_draw w K) (tCons (tVar 1) (tCons (tCB (rLenX K) (tCons (tDGet (tVar 2) (tC (.str "sides"))) tNil)) tNil))) (tCons (tFn (sp__law_draw w K) (tCons (tVar 1) (tCons (tVar 8) tNil))) tNil)))
    (tIfS (tNot (tB (tFn (sp__law_is w K) (tCons (tFn (sp_is_alike w K) (tCons (tVar 4) (tCons (tVar 10) (tCons (tVar 5) (tCons (tVar 11) tNil))))) (tCons (tOp (rInT K) (tTup (tCons (tVar 10) (tCons (tVar 11) tNil))) (tVar 6)) tNil)))))
    (tRet (tC (.bl false)))
    tNext)))
    (tSeq (tAsg (tFn (sp__law_numbered w K) (tCons (tSl (rSlL K) (tFn (sp__law_classes w K) (tCons (tVar 3) (tCons (tVar 3) tNil))) tNoPart (tPart (tVar 8))) tNil)) (gName 12))
    (tSeq (tIfS (tTest (tOp (rNeD K) (tFn (sp_classes w K) (tCons (tVar 5) tNil)) (tVar 12)))
    (tRet (tC (.bl false)))
    tNext)
    (tSeq (tAsg (tLc (iTup K (tFn (sp_likeness w K) (tCons (tVar 5) (tCons (tVar 5) tNil)))) (gName 7) (tTest (tOp rNe (tOp (rIxT K) (tVar 12) (tOp (rIxT K) (tVar 7) (tC (.int 0)))) (tOp (rIxT K) (tVar 12) (tOp (rIxT K) (tVar 7) (tC (.int 1)))))) (tVar 7) [7]) (gName 13))
    (tSeq (tIfS (tOr (tTest (tOp (rNeD K) (tVar 13) (tLst tNil))) (tTest (tOp rNe (tCB (rLenX K) (tCons (tFn (sp_likeness w K) (tCons (tVar 5) (tCons (tVar 5) tNil))) tNil)) (tCB (rSum K) (tCons (tLc (iTup K (tVar 12)) (gName 14) tYes (tBMF (rCountT K) (tVar 12) (tCons (tVar 14) tNil)) [14]) tNil)))))
    (tRet (tC (.bl false)))
    tNext)
    (tSeq (tAsg (tTup (tCons (tFn (sp__law_pick w K) (tCons (tVar 1) (tCons (tLst (tCons (tUn rNegI (tC (.int 1))) (tCons (tFld K (tVar 4) ("places" : Str)) (tCons (tC .non) (tCons (tC (.bl true)) (tCons (tC (.str "0")) tNil)))))) tNil))) (tCons (tFn (sp__law_pick w K) (tCons (tVar 1) (tCons (tLst (tCons (tFld K (tVar 5) ("places" : Str)) (tCons (tUn rNegI (tC (.int 1))) (tCons (tC .non) (tCons (tC (.bl false)) (tCons (tTup (tCons (tC (.int 0)) tNil)) tNil)))))) tNil))) tNil))) (gTup K 2 (gCons (gName 15) (gCons (gName 16) gNil))))
    (tSeq (tIfS (tTest (tOp (rNeD K) (LamX.tLam (LT K) (TTf K) (fun Ech => tCall (sp_is_alikeX w K) [] Ech (tCons (tVar 4) (tCons (tVar 15) (tCons (tVar 5) (tCons (tVar 16) tNil)))))) (tTup (tCons (tVar 15) tNil))))
    (tRet (tC (.bl false)))
    tNext)
    (tRet (tOp (rEqD K) (LamX.tLam (LT K) (TTf K) (fun Ech => tCall (sp_is_alikeX w K) [] Ech (tCons (tVar 4) (tCons (tC (.int 0)) (tCons (tVar 5) (tCons (tVar 16) tNil)))))) (tTup (tCons (tVar 16) tNil))))))))))))))))
/-! ## the drawn books -/
def sp_law (w : World) (K : PySem.W.Frag) : Sp := fun vs H Q _ => ∃ (a : Addr) (ns : List Int), vs = [.ref a] ∧ SqL K H a (ns.map V.int) ∧ H (aT K) = some (.tbl #[]) ∧ ∀ H', Q (.bl true) H'
section
variable {P : Program} {w : World} {K : PySem.W.Frag} {mg : Str → Option Value} (E : Ctx w K mg)
include E
theorem law_3 {H : Hp} {Q : VK} {p c : Addr} {n : Nat} {v2 v3 : V} {A B : Bk} {x0 : Option V} (pen : Pen H p c n) (hn : n ≤ 40000) (b2 : LwB K H v2 A) (b3 : LwB K H v3 B) (oA : A.Ok) (a4 : A.sides.length ≤ 4) (oB : B.Ok) (tb : H (aT K) = some (.tbl #[])) (q : ∀ H', Q (.bl true) H') :
    t_law_3 P w K { nx := fun _ H' => Q .non H', rt := Q } [x0, some (.ref p), some v2, some v3, none, none, none, none, none, none, none, none, none, none, none, none, none] H := by
  refine ⟨_, rfl, _, rfl, p, c, n, v2, A, rfl, pen, by omega, b2, oA, fun H1 v4 d1 p1 m4 => ⟨_, rfl, _, rfl, p, c, _, v3, B, rfl, p1, by omega, b3.but pen d1, oB, fun H2 v5 d2 p2 m5 => ?_⟩⟩
  have d12 := d1.trans d2
  refine ⟨_, rfl, _, rfl, v2, v3, A, B, rfl, b2.but pen d12, b3.but pen d12, oA, oB, fun H3 T ps fs e3 sT cls al => ⟨(by show 3 ≤ sizeLine; decide), fun T0 hT0 => ⟨T0, _, rfl, Evl.st_of upd_same, rfl, _, _, rfl, _, _, rfl, _, _, rfl, rfl, ?_⟩⟩⟩
  have e4 := Ex.new (o := .tup [v4, v5, .ref T]) hT0
  have e34 := e3.trans e4
  refine law_4 (P := P) E (n := n + 3000 + 3000) (A := A) (B := B) (fs := fs) (ps := ps) ⟨p2.ex e34, (b2.but pen d12).ex e34, (b3.but pen d12).ex e34, (m4.kp (p1.kp d2)).ex e34, m5.ex e34, e34 _ _ (tb_but pen d12 tb), Evl.ex_t e4 sT, al.tk (.ex e4)⟩ (by omega) oA oB a4 cls q
theorem law_2 {H : Hp} {Q : VK} {p c : Addr} {n : Nat} {v2 : V} {A : Bk} {x0 : Option V} (pen : Pen H p c n) (hn : n ≤ 30000) (b2 : LwB K H v2 A) (oA4 : A.OkB 4 13 2 3 3) (tb : H (aT K) = some (.tbl #[])) (q : ∀ H', Q (.bl true) H') :
    t_law_2 P w K { nx := fun _ H' => Q .non H', rt := Q } [x0, some (.ref p), some v2, none, none, none, none, none, none, none, none, none, none, none, none, none, none] H := by
  have oA : A.Ok := oA4.ok (by decide) (by decide) (by decide) (by decide) (by decide)
  refine ⟨_, rfl, p, c, n, 6, rfl, pen, by omega, by decide, by decide, fun H1 i d1 p1 i0 i1 => ⟨rfl, _, rfl, ?_⟩⟩
  refine ite2 (fun _ => ?_) fun _ => ?_
  · refine ⟨_, rfl, p, c, _, rfl, p1, by omega, fun H2 v3 B d2 p2 b3 oB4 => ?_⟩
    have oB : B.Ok := oB4.ok (by decide) (by decide) (by decide) (by decide) (by decide)
    exact law_3 (P := P) E p2 (by omega) ((b2.but pen d1).but p1 d2) b3 oA oA4.n2 oB (tb_but p1 d2 (tb_but pen d1 tb)) q
  · refine ⟨_, rfl, _, rfl, p, c, _, v2, A, rfl, p1, by omega, b2.but pen d1, oA4, fun H2 v3 B d2 p2 b3 oB => ?_⟩
    exact law_3 (P := P) E p2 (by omega) ((b2.but pen d1).but p1 d2) b3 oA oA4.n2 oB (tb_but p1 d2 (tb_but pen d1 tb)) q
theorem rd_law (vs : List V) (H : Hp) (Q : VK) (E0 : XK) (h : sp_law w K vs H Q E0) : vs.length = 1 ∧ t_law P w K { nx := fun _ H' => Q .non H', rt := Q } (start N_law vs) H := by
  obtain ⟨a, ns, rfl, s, tb, q⟩ := h
  refine ⟨rfl, _, rfl, a, ns, rfl, s, fun H1 p c e1 pen => ?_⟩
  refine ⟨_, rfl, p, c, 0, rfl, pen, by omega, fun H2 v2 A d2 p2 b2 oA4 => ?_⟩
  exact law_2 (P := P) E p2 (by omega) b2 oA4 (tb_but pen d2 (e1 _ _ tb)) q
end
end K28

set_option Elab.async false
set_option linter.all false
set_option maxRecDepth 100000
set_option maxHeartbeats 4000000
namespace K28
open PySem PySem.Spec PyProof.Rows L2
open Evl (Ex)

/-! ## the law keeps its promise -/
theorem ok_law {P : Program} {w : World} {K : PySem.W.Frag} {mg : Str → Option Value} (E : Ctx w K mg) : ∃ fd : FuncData, (∀ (s : Shared) (v : Value), BindsTo s fd ⟨[v], []⟩ [("_law_script", v)]) ∧
    ∀ base : Heap, LamX.TabB base mg (He.cT K ("law", none)).1 (He.cT K ("law", none)).2 → FnOk P w K mg base CX0 12 (He.fAd K ("law", none)) fd ["_law_script"] (sp_law w K) := by
  obtain ⟨fd, F⟩ := E.D_law
  have bl := FunD.bindsA (ps := ["_law_script"]) F fun _ _ _ _ _ _ us hl => match us, hl with | [_], _ => rfl
  refine ⟨fd, fun s v => bl s [v] rfl, fun base TB => ?_⟩
  obtain ⟨fdf, Ff⟩ := E.D__law_fault
  obtain ⟨f8, fd8, F8, b8, g8, k8⟩ := ok_is_alikeX (P := P) (base := base) E
  have bf : Binds K fdf ["_law_call"] [] := FunD.bindsN Ff (fun _ _ _ _ _ _ us hl => match us, hl with | [_], _ => rfl)
  obtain ⟨oc0, od0, dV0, kV0, doc0, pm0, an0, cdf, ct0, osl0, rfl, lkf, hcf, _, _⟩ := Ff.ex
  obtain ⟨oc, od, dV, kV, doc, pm, an, cdv, ct, osl, rfl, lk, hcd, _, _⟩ := F.ex
  obtain ⟨c, rfl⟩ := He.codeIn_ref hcd
  have ec : (He.cT K ("law", none)).1 = c := He.codeOf_eq lk rfl
  rw [ec] at TB
  refine fn_of lk hcd sc_law (fun vs H Q E0 h => ?_) fun A outer s H vs Q E0 hr h => ⟨t_law P w K, PSs.nox ?_, ?_⟩
  · obtain ⟨a, ns, rfl, _⟩ := h
    rfl
  · exact (pss_cons (ps_set (i := 1) sc_law.nd rfl (Or.inl rfl) (pe_fn (ok__law_pen E) (hr.mono (by decide)) (by rfl) (pa_cons (pv 0) pa_nil)))
    (pss_cons (ps_set (i := 2) sc_law.nd rfl (Or.inl rfl) (pe_fn (ok__law_drawn_book E) (hr.mono (by decide)) (by rfl) (pa_cons (pv 1) pa_nil)))
    (pss_cons (ps_set (i := 3) sc_law.nd rfl (Or.inl rfl) (pe_ifExp (pt_cmpR op_eq (pe_fn (ok__law_draw E) (hr.mono (by decide)) (by rfl) (pa_cons (pv 1) (pa_cons pe_int pa_nil))) pe_int (nomark _)) (pe_fn (ok__law_drawn_book E) (hr.mono (by decide)) (by rfl) (pa_cons (pv 1) pa_nil)) (pe_fn (ok__law_near_twin E) (hr.mono (by decide)) (by rfl) (pa_cons (pv 1) (pa_cons (pv 2) (pa_cons pe_int pa_nil))))))
    (pss_cons (ps_asg (pe_tup (pa_cons (pe_fn (ok__law_made_book E) (hr.mono (by decide)) (by rfl) (pa_cons (pv 1) (pa_cons (pv 2) pa_nil))) (pa_cons (pe_fn (ok__law_made_book E) (hr.mono (by decide)) (by rfl) (pa_cons (pv 1) (pa_cons (pv 3) pa_nil))) (pa_cons (pe_fn (ok__law_alike E) (hr.mono (by decide)) (by rfl) (pa_cons (pv 2) (pa_cons (pv 3) pa_nil))) pa_nil)))) (pg_tup rfl (pgs_cons (pg_name (i := 4) sc_law.nd rfl (Or.inr rfl)) (pgs_cons (pg_name (i := 5) sc_law.nd rfl (Or.inr rfl)) (pgs_cons (pg_name (i := 6) sc_law.nd rfl (Or.inl rfl)) pgs_nil)))))
    (pss_cons (ps_if (PW.pt (pw_or (pt_cmpR (op_neD hr.units) (pe_fn (ok_likeness E) (hr.mono (by decide)) (by rfl) (pa_cons (pv 4) (pa_cons (pv 5) pa_nil))) (pv 6) (nomark _)) (pw_or1 (pt_cmpR (op_neD hr.units) (pe_fn (ok_likeness E) (hr.mono (by decide)) (by rfl) (pa_cons (pv 5) (pa_cons (pv 4) pa_nil))) (pe_callTy call_tuple_q (by rfl) E.f_tuple (by decide +kernel) (pa_cons (pe_callB (cr_sortT (d := 2) (B := 4294967296) (by decide)) (by rfl) E.f_sorted (by decide +kernel) (pa_cons (pe_lc (own := [("_law_pair", 7)]) (wi := (iTup K (tVar 6))) (g := (gName 7)) (tt := tYes) (te := (tTup (tCons (tOp (rIxT K) (tVar 7) (tC (.int 1))) (tCons (tOp (rIxT K) (tVar 7) (tC (.int 0))) tNil)))) rfl sc_law.nd (pi_tup (pv 6)) (blkOk_by (own := [("_law_pair", 7)]) (N := N_law) (sc := defScope s_law) (by decide +kernel)) (fun _ _ _ _ _ => (pg_name (i := 7) sc_law.nd rfl (Or.inl rfl))) (fun _ _ _ _ _ => pts_nil) (fun _ _ _ _ _ => (pe_tup (pa_cons (pe_ix ix_tup (pv 7) pe_int (fun _ _ => rfl)) (pa_cons (pe_ix ix_tup (pv 7) pe_int (fun _ _ => rfl)) pa_nil))))) pa_nil)) pa_nil)) (nomark _)))))
    (pss_one (ps_ret pe_bl))
    pss_nil)
    (pss_cons (ps_set (i := 8) sc_law.nd rfl (Or.inl rfl) (pe_callB call_len (by rfl) E.f_len (by decide +kernel) (pa_cons (pe_dget (hu_of hr) (pv 3) pe_str (fun _ _ => rfl)) pa_nil)))
    (pss_cons (ps_for PassesOwn.never rfl (pi_range1 (by rfl) E.f_range (pa_cons pe_int pa_nil)) (pg_name (i := 9) sc_law.nd rfl (Or.inl rfl))
    (pss_cons (ps_par (i := 10) (j := 11) rfl sc_law.nd rfl rfl (by decide) rfl rfl (pa_cons (pe_fn (ok__law_draw E) (hr.mono (by decide)) (by rfl) (pa_cons (pv 1) (pa_cons (pe_callB call_len (by rfl) E.f_len (by decide +kernel) (pa_cons (pe_dget (hu_of hr) (pv 2) pe_str (fun _ _ => rfl)) pa_nil)) pa_nil))) (pa_cons (pe_fn (ok__law_draw E) (hr.mono (by decide)) (by rfl) (pa_cons (pv 1) (pa_cons (pv 8) pa_nil))) pa_nil)) rfl)
    (pss_one (ps_if (pt_not (pt_val (pe_fn (ok__law_is E) (hr.mono (by decide)) (by rfl) (pa_cons (pe_fn (ok_is_alike E) (hr.mono (by decide)) (by rfl) (pa_cons (pv 4) (pa_cons (pv 10) (pa_cons (pv 5) (pa_cons (pv 11) pa_nil))))) (pa_cons (pe_cmpR (op_inT (room65 hr)) (pe_tup (pa_cons (pv 10) (pa_cons (pv 11) pa_nil))) (pv 6) (by rfl)) pa_nil)))))
    (pss_one (ps_ret pe_bl))
    pss_nil))))
    (pss_cons (ps_set (i := 12) sc_law.nd rfl (Or.inr rfl) (pe_fn (ok__law_numbered E) (hr.mono (by decide)) (by rfl) (pa_cons (pe_slice sl_list (pe_fn (ok__law_classes E) (hr.mono (by decide)) (by rfl) (pa_cons (pv 3) (pa_cons (pv 3) pa_nil))) po_none (po_some (pv 8))) pa_nil)))
    (pss_cons (ps_if (pt_cmpR (op_neD hr.units) (pe_fn (ok_classes E) (hr.mono (by decide)) (by rfl) (pa_cons (pv 5) pa_nil)) (pv 12) (nomark _))
    (pss_one (ps_ret pe_bl))
    pss_nil)
    (pss_cons (ps_setLc (i := 13) (own := [("_law_pair", 7)]) (wi := (iTup K (tFn (sp_likeness w K) (tCons (tVar 5) (tCons (tVar 5) tNil))))) (g := (gName 7)) (tt := (tTest (tOp rNe (tOp (rIxT K) (tVar 12) (tOp (rIxT K) (tVar 7) (tC (.int 0)))) (tOp (rIxT K) (tVar 12) (tOp (rIxT K) (tVar 7) (tC (.int 1))))))) (te := (tVar 7)) rfl sc_law.nd rfl rfl (sw_true rfl rfl rfl (by decide +kernel)) (pi_tup (pe_fn (ok_likeness E) (hr.mono (by decide)) (by rfl) (pa_cons (pv 5) (pa_cons (pv 5) pa_nil)))) (blkOk_by (own := [("_law_pair", 7)]) (N := N_law) (sc := defScope s_law) (by decide +kernel)) (fun _ _ _ _ _ => (pg_name (i := 7) sc_law.nd rfl (Or.inl rfl))) (fun _ _ _ _ _ => (pts_one (pt_cmpR op_ne (pe_ix ix_tup (pv 12) (pe_ix ix_tup (pv 7) pe_int (fun _ _ => rfl)) (fun _ _ => rfl)) (pe_ix ix_tup (pv 12) (pe_ix ix_tup (pv 7) pe_int (fun _ _ => rfl)) (fun _ _ => rfl)) (nomark _)))) (fun _ _ _ _ _ => (pv 7)))
    (pss_cons (ps_if (PW.pt (pw_or (pt_cmpR (op_neD hr.units) (pv 13) (pe_lst pa_nil) (nomark _)) (pw_or1 (pt_cmpR op_ne (pe_callB call_len (by rfl) E.f_len (by decide +kernel) (pa_cons (pe_fn (ok_likeness E) (hr.mono (by decide)) (by rfl) (pa_cons (pv 5) (pa_cons (pv 5) pa_nil))) pa_nil)) (pe_callB (cr_sum rfl) (by rfl) E.f_sum (by decide +kernel) (pa_cons (pe_lc (own := [("_law_number", 14)]) (wi := (iTup K (tVar 12))) (g := (gName 14)) (tt := tYes) (te := (tBMF (rCountT K) (tVar 12) (tCons (tVar 14) tNil))) rfl sc_law.nd (pi_tup (pv 12)) (blkOk_by (own := [("_law_number", 14)]) (N := N_law) (sc := defScope s_law) (by decide +kernel)) (fun _ _ _ _ _ => (pg_name (i := 14) sc_law.nd rfl (Or.inl rfl))) (fun _ _ _ _ _ => pts_nil) (fun _ _ _ _ _ => (pe_bmF PySem.F.plainAttrs_tuple PySem.F.slot_tuple_count PySem.F.type_tuple_count (mt_countT (room65 hr)) (pv 12) (pa_cons (pv 14) pa_nil)))) pa_nil)) (nomark _)))))
    (pss_one (ps_ret pe_bl))
    pss_nil)
    (pss_cons (ps_asg (pe_tup (pa_cons (pe_fn (ok__law_pick E) (hr.mono (by decide)) (by rfl) (pa_cons (pv 1) (pa_cons (pe_lst (pa_cons (pe_un un_neg pe_int) (pa_cons (pe_fld (pv 4) rfl) (pa_cons pe_non (pa_cons pe_bl (pa_cons pe_str pa_nil)))))) pa_nil))) (pa_cons (pe_fn (ok__law_pick E) (hr.mono (by decide)) (by rfl) (pa_cons (pv 1) (pa_cons (pe_lst (pa_cons (pe_fld (pv 5) rfl) (pa_cons (pe_un un_neg pe_int) (pa_cons pe_non (pa_cons pe_bl (pa_cons (pe_tup (pa_cons pe_int pa_nil)) pa_nil)))))) pa_nil))) pa_nil))) (pg_tup rfl (pgs_cons (pg_name (i := 15) sc_law.nd rfl (Or.inr rfl)) (pgs_cons (pg_name (i := 16) sc_law.nd rfl (Or.inr rfl)) pgs_nil))))
    (pss_cons (ps_if (pt_cmpR (op_neD hr.units) (LamX.pe_lamcall (T := LT K) (TT := TTf K) (k := 8) (t := (fun Ech => tCall (sp_is_alikeX w K) [] Ech (tCons (tVar 4) (tCons (tVar 15) (tCons (tVar 5) (tCons (tVar 16) tNil)))))) (by rfl) E.g__law_fault Ff.kp lkf hcf bf sc_fault rfl (Or.inl rfl) (gives_fault E) TB rfl (List.mem_singleton.mpr rfl) (fun p hp _ => by rw [List.mem_singleton.mp hp]; rfl) (hr.mono (by decide)) (LamX.lamS_by (sc := defScope s_law) (by decide +kernel)) rfl (fun _ _ _ _ _ => rfl)
      (fun A outer s H Ech f c hr2 => pe_call F8 hr2 (by rfl) g8 k8 b8 .nil (passes_call (takes_of rfl rfl rfl rfl) fun _ _ _ _ z => z) (pa_cons (pv 4) (pa_cons (pv 15) (pa_cons (pv 5) (pa_cons (pv 16) pa_nil)))))) (pe_tup (pa_cons (pv 15) pa_nil)) (nomark _))
    (pss_one (ps_ret pe_bl))
    pss_nil)
    (pss_one (ps_ret (pe_cmpR (op_eqD hr.units) (LamX.pe_lamcall (T := LT K) (TT := TTf K) (k := 8) (t := (fun Ech => tCall (sp_is_alikeX w K) [] Ech (tCons (tVar 4) (tCons (tC (.int 0)) (tCons (tVar 5) (tCons (tVar 16) tNil)))))) (by rfl) E.g__law_fault Ff.kp lkf hcf bf sc_fault rfl (Or.inl rfl) (gives_fault E) TB rfl (List.mem_singleton.mpr rfl) (fun p hp _ => by rw [List.mem_singleton.mp hp]; rfl) (hr.mono (by decide)) (LamX.lamS_by (sc := defScope s_law) (by decide +kernel)) rfl (fun _ _ _ _ _ => rfl)
      (fun A outer s H Ech f c hr2 => pe_call F8 hr2 (by rfl) g8 k8 b8 .nil (passes_call (takes_of rfl rfl rfl rfl) fun _ _ _ _ z => z) (pa_cons (pv 4) (pa_cons pe_int (pa_cons (pv 5) (pa_cons (pv 16) pa_nil)))))) (pe_tup (pa_cons (pv 16) pa_nil)) (nomark _)))))))))))))))))
  · exact (rd_law (P := P) E vs H Q E0 h).2
end K28

set_option Elab.async false
set_option linter.all false
set_option maxRecDepth 100000
set_option maxHeartbeats 0
/-! ## the head's end -/
namespace K28
open PySem PySem.Spec PyProof.Rows L2
theorem facts {P : Program} {w : World} {K : PySem.W.Frag} {h : Heap} {mg : Str → Option Value} {f : Addr} (KX : K.In h) (G : h.Ns mainGlobals mg) (hfa : mg ("law" : Str) = some (.ref f)) (c : He.SaysX fa fn ts tf ex w h K) :
    ∃ fd : FuncData, (∀ (s : Shared) (v : Value), BindsTo s fd ⟨[v], []⟩ [("_law_script", v)]) ∧ ∀ base : Heap, LamX.TabB base mg (He.cT K ("law", none)).1 (He.cT K ("law", none)).2 → FnOk P w K mg base CX0 12 f fd ["_law_script"] (sp_law w K) := by
  have E : Ctx w K mg := ⟨h, KX, G, c⟩
  have e := hfa.symm.trans E.g_law
  cases e
  exact ok_law E
end K28
open PySem PySem.W PySem.Calls PyProof.Rows
theorem PySem.Challenge.cw_anylead_k28_whole_greatest_likeness_holds : PySem.Challenge.rw_anylead_k28_whole_greatest_likeness.Holds := by
  w_on; o_law
  refine HandSHeadRun.head_any (r := OpenLaw.row PySem.Challenge.rw_anylead_k28_whole_greatest_likeness) (q := K28.qv) (H := K28.hk0) (ob := K28.ob) (M := 6000) (loose := K28.names) (d := HandSHeadRun.topDef (OpenLaw.row PySem.Challenge.rw_anylead_k28_whole_greatest_likeness).prog 75) (kwd := []) K28.ob_eq
    (by kernel_rfl) (fun s => by kernel_rfl) K28.run (by kernel_rfl) (by kernel_rfl) (by kernel_rfl) (by rfl) (by first | assumption | decide +kernel) (by decide +kernel) ⟨rfl, rfl, rfl, rfl, rfl, by decide +kernel⟩ ?hw ?hc
  case hw => w_witness2
  case hc =>
    refine LamX.walk_ofTsE (l := PySem.Challenge.rw_anylead_k28_whole_greatest_likeness) (n := 63) (k := 12) (x := "_law_script") (CX := fun _ => L2.CX0) rfl (by decide) (by kernel_rfl) ⟨rfl, by decide, by decide⟩ ?F (fun _ _ _ _ _ z => z)
    intro w mg fa h Y G hmg0
    obtain ⟨K, KX, c⟩ := Y
    have hmg : mg ("law" : PySem.Str) = some (.ref fa) := by
      have e : (HandSHeadRun.topDef (OpenLaw.row PySem.Challenge.rw_anylead_k28_whole_greatest_likeness).prog 75).name = ("law" : PySem.Str) := by kernel_rfl
      rw [← e]
      exact hmg0
    obtain ⟨fd, hb, hF⟩ := K28.facts (P := (PySem.Challenge.rw_anylead_k28_whole_greatest_likeness).prog) (w := w) KX G hmg c
    have m0 : (("law", none) : He.Defn) ∈ K28.tf := List.mem_singleton.mpr rfl
    refine ⟨K, KX, fd, [He.cT K ("law", none)], K28.sp_law w K, fun p hp => ?_, fun p hp => ?_, fun p hp => ?_, hb, fun H a ns _ _ hH hS => ⟨a, ns, rfl, hS, hH _ (List.mem_singleton.mpr rfl), fun _ => rfl⟩, fun base _ _ TB => hF base (TB _ (List.mem_singleton.mpr rfl))⟩
    · rw [List.mem_singleton.mp hp]
      exact c.empty _ m0
    · rw [List.mem_singleton.mp hp]
      exact c.out _ m0
    · rw [List.mem_singleton.mp hp]
      exact PySem.W.codeHd_of_K KX (c.hd _ m0)
