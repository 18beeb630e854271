import PyProof.Rows.All
import Wide.All
import OpenK.AllK
import Wide.FinOn
import KE.KStateDown
import Lean
import HandS.ForMost
import HandS.WordsExc
import HandS.Defaults
import HandS.Wide
import HandS.Style
import HandS.Rev
import HandS.SetKeys
import HandS.Flow
import HandS.Zip
import HandS.OwnEq
import HandS.Head0
import HandS.Head1
import HandS.Head2
import HandS.HeadEnd
import HandS.HeadHook1
import HandS.HeadHook2
import PySem.Challenge.RW_tellsnone_k63_whole_numbers_that_come_tw
import PyProof.InstNe
import PyProof.FactsAll.object_2
import KE.KDictKeyed
import KE.KDictPairs
import KE.KDictWalk
import KE.GoesDict
import HandS.DictTup
import HandS.Keys
import HandS.More
import HandS.RevTup
import KE.KeyNested
import KE.KItemsList
import HandS.Walk
import KE.GoesEnum
import HandS.DeepEq
import HandS.SetFor
import HandS.LawCells
set_option Elab.async false
set_option Elab.async false
set_option linter.all false
set_option maxRecDepth 100000
set_option maxHeartbeats 4000000
namespace Tn
open PySem PySem.Spec PyProof.Rows L2
def top (i : Nat) : Stmt := PySem.Challenge.pw_tellsnone_k63_whole_numbers_that_come_tw.main.body.getD i (.Pass ⟨0, 0, 0, 0⟩)
abbrev s_Ratio_init : Stmt := inClass (top 8) 0
abbrev s_Ratio_add : Stmt := inClass (top 8) 1
abbrev s_Ratio_sub : Stmt := inClass (top 8) 2
abbrev s_Ratio_mul : Stmt := inClass (top 8) 3
abbrev s_Ratio_eq : Stmt := inClass (top 8) 4
abbrev s_Ratio_below : Stmt := inClass (top 8) 6
abbrev s_Moment_init : Stmt := inClass (top 20) 0
abbrev s_Moment_state : Stmt := inClass (top 20) 1
abbrev s_Moment_copy : Stmt := inClass (top 20) 2
abbrev s_Runner_init : Stmt := inClass (top 21) 0
abbrev s_Runner_table : Stmt := inClass (top 21) 2
abbrev s_Runner_value : Stmt := inClass (top 21) 4
abbrev s_Runner_ends : Stmt := inClass (top 21) 5
abbrev s_Runner_stacked : Stmt := inClass (top 21) 6
abbrev s_Runner_go : Stmt := inClass (top 21) 7
abbrev s_Runner_drawn : Stmt := inClass (top 21) 8
abbrev s_Runner_plain : Stmt := inClass (top 21) 10
abbrev s_Look_init : Stmt := inClass (top 25) 0
abbrev s_Look_best : Stmt := inClass (top 25) 1
abbrev s_Look_asked : Stmt := inClass (top 25) 2
abbrev s_Look_split : Stmt := inClass (top 25) 3
abbrev s_Bound_init : Stmt := inClass (top 29) 0
abbrev s_Bound_at : Stmt := inClass (top 29) 3
abbrev s_Bound_plus : Stmt := inClass (top 29) 4
abbrev s_Game_init : Stmt := inClass (top 32) 0
abbrev s_Game_eq : Stmt := inClass (top 32) 1
abbrev s_Game_parts : Stmt := inClass (top 32) 2
abbrev s_Game_proc : Stmt := inClass (top 32) 3
abbrev s_Derivation_init : Stmt := inClass (top 77) 0
abbrev s_Derivation_step : Stmt := inClass (top 77) 1
abbrev s_Derivation_move : Stmt := inClass (top 77) 2
abbrev s_total : Stmt := top 9
abbrev s_first_state : Stmt := top 18
abbrev s_combine : Stmt := top 19
abbrev s_face : Stmt := top 24
abbrev s_best_player : Stmt := top 26
abbrev s_apart : Stmt := top 27
abbrev s_nothing : Stmt := top 30
abbrev s_bare : Stmt := top 66
abbrev s_alike : Stmt := top 67
abbrev s_has_bad : Stmt := top 68
abbrev s_puts : Stmt := top 69
abbrev s_hit : Stmt := top 70
abbrev s_counted : Stmt := top 71
abbrev s_highest : Stmt := top 72
abbrev s_until : Stmt := top 73
abbrev s_check_player : Stmt := top 81
abbrev s_calls_of : Stmt := top 82
abbrev s_chance : Stmt := top 83
abbrev s_chance_in : Stmt := top 84
abbrev s_l_cell : Stmt := top 86
abbrev s_l_row : Stmt := top 88
abbrev s_l_less : Stmt := top 89
abbrev s_l_times : Stmt := top 91
abbrev s_l_player : Stmt := top 92
abbrev s_l_calls : Stmt := top 93
abbrev s_l_game : Stmt := top 94
abbrev s_l_finder : Stmt := top 95
abbrev s_law : Stmt := top 96
def d_Ratio_init : He.DefD := ⟨("Ratio", some "__init__"), "__init__", "Ratio.__init__", defArgs s_Ratio_init, defBody s_Ratio_init, defScope s_Ratio_init, [.int 1], []⟩
def d_Ratio_add : He.DefD := ⟨("Ratio", some "__add__"), "__add__", "Ratio.__add__", defArgs s_Ratio_add, defBody s_Ratio_add, defScope s_Ratio_add, [], []⟩
def d_Ratio_sub : He.DefD := ⟨("Ratio", some "__sub__"), "__sub__", "Ratio.__sub__", defArgs s_Ratio_sub, defBody s_Ratio_sub, defScope s_Ratio_sub, [], []⟩
def d_Ratio_mul : He.DefD := ⟨("Ratio", some "__mul__"), "__mul__", "Ratio.__mul__", defArgs s_Ratio_mul, defBody s_Ratio_mul, defScope s_Ratio_mul, [], []⟩
def d_Ratio_eq : He.DefD := ⟨("Ratio", some "__eq__"), "__eq__", "Ratio.__eq__", defArgs s_Ratio_eq, defBody s_Ratio_eq, defScope s_Ratio_eq, [], []⟩
def d_Ratio_below : He.DefD := ⟨("Ratio", some "below"), "below", "Ratio.below", defArgs s_Ratio_below, defBody s_Ratio_below, defScope s_Ratio_below, [], []⟩
def d_Moment_init : He.DefD := ⟨("Moment", some "__init__"), "__init__", "Moment.__init__", defArgs s_Moment_init, defBody s_Moment_init, defScope s_Moment_init, [], []⟩
def d_Moment_state : He.DefD := ⟨("Moment", some "state"), "state", "Moment.state", defArgs s_Moment_state, defBody s_Moment_state, defScope s_Moment_state, [], []⟩
def d_Moment_copy : He.DefD := ⟨("Moment", some "copy"), "copy", "Moment.copy", defArgs s_Moment_copy, defBody s_Moment_copy, defScope s_Moment_copy, [], []⟩
def d_Runner_init : He.DefD := ⟨("Runner", some "__init__"), "__init__", "Runner.__init__", defArgs s_Runner_init, defBody s_Runner_init, defScope s_Runner_init, [], []⟩
def d_Runner_table : He.DefD := ⟨("Runner", some "table"), "table", "Runner.table", defArgs s_Runner_table, defBody s_Runner_table, defScope s_Runner_table, [], []⟩
def d_Runner_value : He.DefD := ⟨("Runner", some "value"), "value", "Runner.value", defArgs s_Runner_value, defBody s_Runner_value, defScope s_Runner_value, [], []⟩
def d_Runner_ends : He.DefD := ⟨("Runner", some "ends"), "ends", "Runner.ends", defArgs s_Runner_ends, defBody s_Runner_ends, defScope s_Runner_ends, [], []⟩
def d_Runner_stacked : He.DefD := ⟨("Runner", some "stacked"), "stacked", "Runner.stacked", defArgs s_Runner_stacked, defBody s_Runner_stacked, defScope s_Runner_stacked, [], []⟩
def d_Runner_go : He.DefD := ⟨("Runner", some "go"), "go", "Runner.go", defArgs s_Runner_go, defBody s_Runner_go, defScope s_Runner_go, [], []⟩
def d_Runner_drawn : He.DefD := ⟨("Runner", some "drawn"), "drawn", "Runner.drawn", defArgs s_Runner_drawn, defBody s_Runner_drawn, defScope s_Runner_drawn, [], []⟩
def d_Runner_plain : He.DefD := ⟨("Runner", some "plain"), "plain", "Runner.plain", defArgs s_Runner_plain, defBody s_Runner_plain, defScope s_Runner_plain, [], []⟩
def d_Look_init : He.DefD := ⟨("Look", some "__init__"), "__init__", "Look.__init__", defArgs s_Look_init, defBody s_Look_init, defScope s_Look_init, [], []⟩
def d_Look_best : He.DefD := ⟨("Look", some "best"), "best", "Look.best", defArgs s_Look_best, defBody s_Look_best, defScope s_Look_best, [], []⟩
def d_Look_asked : He.DefD := ⟨("Look", some "asked"), "asked", "Look.asked", defArgs s_Look_asked, defBody s_Look_asked, defScope s_Look_asked, [], []⟩
def d_Look_split : He.DefD := ⟨("Look", some "split"), "split", "Look.split", defArgs s_Look_split, defBody s_Look_split, defScope s_Look_split, [], []⟩
def d_Bound_init : He.DefD := ⟨("Bound", some "__init__"), "__init__", "Bound.__init__", defArgs s_Bound_init, defBody s_Bound_init, defScope s_Bound_init, [.non], []⟩
def d_Bound_at : He.DefD := ⟨("Bound", some "at"), "at", "Bound.at", defArgs s_Bound_at, defBody s_Bound_at, defScope s_Bound_at, [], []⟩
def d_Bound_plus : He.DefD := ⟨("Bound", some "plus"), "plus", "Bound.plus", defArgs s_Bound_plus, defBody s_Bound_plus, defScope s_Bound_plus, [], []⟩
def d_Game_init : He.DefD := ⟨("Game", some "__init__"), "__init__", "Game.__init__", defArgs s_Game_init, defBody s_Game_init, defScope s_Game_init, [], []⟩
def d_Game_eq : He.DefD := ⟨("Game", some "__eq__"), "__eq__", "Game.__eq__", defArgs s_Game_eq, defBody s_Game_eq, defScope s_Game_eq, [], []⟩
def d_Game_parts : He.DefD := ⟨("Game", some "parts"), "parts", "Game.parts", defArgs s_Game_parts, defBody s_Game_parts, defScope s_Game_parts, [], []⟩
def d_Game_proc : He.DefD := ⟨("Game", some "proc"), "proc", "Game.proc", defArgs s_Game_proc, defBody s_Game_proc, defScope s_Game_proc, [], []⟩
def d_Derivation_init : He.DefD := ⟨("Derivation", some "__init__"), "__init__", "Derivation.__init__", defArgs s_Derivation_init, defBody s_Derivation_init, defScope s_Derivation_init, [], []⟩
def d_Derivation_step : He.DefD := ⟨("Derivation", some "step"), "step", "Derivation.step", defArgs s_Derivation_step, defBody s_Derivation_step, defScope s_Derivation_step, [], []⟩
def d_Derivation_move : He.DefD := ⟨("Derivation", some "move"), "move", "Derivation.move", defArgs s_Derivation_move, defBody s_Derivation_move, defScope s_Derivation_move, [], []⟩
def d_total : He.DefD := ⟨("total", none), "total", "total", defArgs s_total, defBody s_total, defScope s_total, [], []⟩
def d_first_state : He.DefD := ⟨("first_state", none), "first_state", "first_state", defArgs s_first_state, defBody s_first_state, defScope s_first_state, [], []⟩
def d_combine : He.DefD := ⟨("combine", none), "combine", "combine", defArgs s_combine, defBody s_combine, defScope s_combine, [], []⟩
def d_face : He.DefD := ⟨("face", none), "face", "face", defArgs s_face, defBody s_face, defScope s_face, [], []⟩
def d_best_player : He.DefD := ⟨("best_player", none), "best_player", "best_player", defArgs s_best_player, defBody s_best_player, defScope s_best_player, [], []⟩
def d_apart : He.DefD := ⟨("apart", none), "apart", "apart", defArgs s_apart, defBody s_apart, defScope s_apart, [], []⟩
def d_nothing : He.DefD := ⟨("nothing", none), "nothing", "nothing", defArgs s_nothing, defBody s_nothing, defScope s_nothing, [], []⟩
def d_bare : He.DefD := ⟨("bare", none), "bare", "bare", defArgs s_bare, defBody s_bare, defScope s_bare, [], []⟩
def d_alike : He.DefD := ⟨("alike", none), "alike", "alike", defArgs s_alike, defBody s_alike, defScope s_alike, [], []⟩
def d_has_bad : He.DefD := ⟨("has_bad", none), "has_bad", "has_bad", defArgs s_has_bad, defBody s_has_bad, defScope s_has_bad, [], []⟩
def d_puts : He.DefD := ⟨("puts", none), "puts", "puts", defArgs s_puts, defBody s_puts, defScope s_puts, [], []⟩
def d_hit : He.DefD := ⟨("hit", none), "hit", "hit", defArgs s_hit, defBody s_hit, defScope s_hit, [], []⟩
def d_counted : He.DefD := ⟨("counted", none), "counted", "counted", defArgs s_counted, defBody s_counted, defScope s_counted, [], []⟩
def d_highest : He.DefD := ⟨("highest", none), "highest", "highest", defArgs s_highest, defBody s_highest, defScope s_highest, [], []⟩
def d_until : He.DefD := ⟨("until", none), "until", "until", defArgs s_until, defBody s_until, defScope s_until, [], []⟩
def d_check_player : He.DefD := ⟨("check_player", none), "check_player", "check_player", defArgs s_check_player, defBody s_check_player, defScope s_check_player, [.int 8], []⟩
def d_calls_of : He.DefD := ⟨("calls_of", none), "calls_of", "calls_of", defArgs s_calls_of, defBody s_calls_of, defScope s_calls_of, [], []⟩
def d_chance : He.DefD := ⟨("chance", none), "chance", "chance", defArgs s_chance, defBody s_chance, defScope s_chance, [], []⟩
def d_chance_in : He.DefD := ⟨("_chance", none), "_chance", "_chance", defArgs s_chance_in, defBody s_chance_in, defScope s_chance_in, [], []⟩
def d_l_cell : He.DefD := ⟨("_law_cell", none), "_law_cell", "_law_cell", defArgs s_l_cell, defBody s_l_cell, defScope s_l_cell, [], []⟩
def d_l_row : He.DefD := ⟨("_law_row", none), "_law_row", "_law_row", defArgs s_l_row, defBody s_l_row, defScope s_l_row, [], []⟩
def d_l_less : He.DefD := ⟨("_law_less", none), "_law_less", "_law_less", defArgs s_l_less, defBody s_l_less, defScope s_l_less, [], []⟩
def d_l_times : He.DefD := ⟨("_law_times", none), "_law_times", "_law_times", defArgs s_l_times, defBody s_l_times, defScope s_l_times, [], []⟩
def d_l_player : He.DefD := ⟨("_law_player", none), "_law_player", "_law_player", defArgs s_l_player, defBody s_l_player, defScope s_l_player, [], []⟩
def d_l_calls : He.DefD := ⟨("_law_calls", none), "_law_calls", "_law_calls", defArgs s_l_calls, defBody s_l_calls, defScope s_l_calls, [], []⟩
def d_l_game : He.DefD := ⟨("_law_game", none), "_law_game", "_law_game", defArgs s_l_game, defBody s_l_game, defScope s_l_game, [], []⟩
def d_l_finder : He.DefD := ⟨("_law_finder", none), "_law_finder", "_law_finder", defArgs s_l_finder, defBody s_l_finder, defScope s_l_finder, [], []⟩
def d_law : He.DefD := ⟨("law", none), "law", "law", defArgs s_law, defBody s_law, defScope s_law, [], []⟩
def fns : List He.DefD := [d_Ratio_init, d_Ratio_add, d_Ratio_sub, d_Ratio_mul, d_Ratio_eq, d_Ratio_below, d_Moment_init, d_Moment_state, d_Moment_copy, d_Runner_init, d_Runner_table, d_Runner_value, d_Runner_ends, d_Runner_stacked, d_Runner_go, d_Runner_drawn, d_Runner_plain, d_Look_init, d_Look_best, d_Look_asked, d_Look_split, d_Bound_init, d_Bound_at, d_Bound_plus, d_Game_init, d_Game_eq, d_Game_parts, d_Game_proc, d_Derivation_init, d_Derivation_step, d_Derivation_move, d_total, d_first_state, d_combine, d_face, d_best_player, d_apart, d_nothing, d_bare, d_alike, d_has_bad, d_puts, d_hit, d_counted, d_highest, d_until, d_check_player, d_calls_of, d_chance, d_chance_in, d_l_cell, d_l_row, d_l_less, d_l_times, d_l_player, d_l_calls, d_l_game, d_l_finder, d_law]
def fa0 : List He.Fa := [.cls "Ratio", .mkr "Ratio", .glo "Ratio", .noat "Ratio" "num", .noat "Ratio" "den", .meth "Ratio" "__init__", .meth "Ratio" "__add__", .meth "Ratio" "__sub__", .meth "Ratio" "__mul__", .meth "Ratio" "__eq__", .meth "Ratio" "below", .cls "Moment", .mkr "Moment", .glo "Moment", .noat "Moment" "held", .noat "Moment" "tables", .noat "Moment" "lots", .noat "Moment" "bad", .noat "Moment" "names", .noat "Moment" "pending", .meth "Moment" "__init__", .meth "Moment" "state", .meth "Moment" "copy", .cls "Runner", .mkr "Runner", .glo "Runner", .noat "Runner" "game", .meth "Runner" "__init__", .meth "Runner" "table", .meth "Runner" "value"]
def fa1 : List He.Fa := [.meth "Runner" "ends", .meth "Runner" "stacked", .meth "Runner" "go", .meth "Runner" "drawn", .meth "Runner" "plain", .cls "Look", .mkr "Look", .glo "Look", .noat "Look" "runners", .noat "Look" "asks", .noat "Look" "left", .meth "Look" "__init__", .meth "Look" "best", .meth "Look" "asked", .meth "Look" "split", .cls "Bound", .mkr "Bound", .glo "Bound", .noat "Bound" "flat", .noat "Bound" "first", .noat "Bound" "more", .noat "Bound" "limit", .meth "Bound" "__init__", .meth "Bound" "at", .meth "Bound" "plus", .cls "Game", .mkr "Game", .glo "Game", .noat "Game" "variables", .noat "Game" "tables"]
def fa2 : List He.Fa := [.noat "Game" "lots", .noat "Game" "procs", .meth "Game" "__init__", .meth "Game" "__eq__", .meth "Game" "parts", .meth "Game" "proc", .cls "Derivation", .mkr "Derivation", .glo "Derivation", .noat "Derivation" "first", .noat "Derivation" "last", .noat "Derivation" "bound", .meth "Derivation" "__init__", .meth "Derivation" "step", .meth "Derivation" "move", .glo "total", .glo "first_state", .glo "combine", .glo "face", .glo "best_player", .glo "apart", .glo "nothing", .glo "bare", .glo "alike", .glo "has_bad", .glo "puts", .glo "hit", .glo "counted", .glo "highest", .glo "until"]
def fa3 : List He.Fa := [.glo "check_player", .glo "calls_of", .glo "chance", .glo "_chance", .glo "_law_cell", .glo "_law_row", .glo "_law_less", .glo "_law_times", .glo "_law_player", .glo "_law_calls", .glo "_law_game", .glo "_law_finder", .glo "law", .free "abs", .free "isinstance", .free "len", .free "list", .free "tuple", .free "dict", .free "sorted", .free "int", .free "reversed", .free "range", .free "zip", .free "enumerate", .free "max", .free "min", .free "any", .int "GREATEST" 65535, .int "MOST_WAYS" 5000]
def fa4 : List He.Fa := [.int "MOST_LOOKS" 3000, .int "MOST_TOSS" 16, .glo "SAME"]
def fas : List He.Fa := fa0 ++ fa1 ++ fa2 ++ fa3 ++ fa4
def nm0 : List PySem.Str := ["PlayError", "BadCall", "BadPlayer", "BadStep", "BadBound", "TooLarge", "Ratio", "total", "KEYWORDS", "GREATEST", "DIGITS", "LETTERS", "is_name", "MOST_WAYS", "first_state", "combine", "Moment", "Runner", "MOST_LOOKS", "face", "Look", "best_player", "apart", "Bound", "nothing", "Game", "asks_in", "asks", "names_of", "renamed"]
def nm1 : List PySem.Str := ["renamed_block", "Filler", "is_plain", "compose", "reads", "effects", "block_effects", "apart_from", "folded", "folded_block", "fold", "changed", "block_of", "swap", "drop", "toss", "shift", "sink", "all_reads", "without", "erase", "spelled_block", "spelled", "spell", "bare", "alike", "has_bad", "puts", "hit", "counted"]
def nm2 : List PySem.Str := ["highest", "until", "SAME", "same", "Derivation", "MOST_TOSS", "DEEPEST", "check_player", "calls_of", "chance", "_chance", "_law_cell", "_law_is_integer", "_law_row", "_law_less", "_law_plus", "_law_times", "_law_player", "_law_calls", "_law_game", "_law_finder"]
def names : List PySem.Str := nm0 ++ nm1 ++ nm2
def roots : List PySem.Str := (["Ratio", "Moment", "Runner", "Look", "Bound", "Game", "Derivation", "SAME", "total", "first_state", "combine", "face", "best_player", "apart", "nothing"] : List PySem.Str) ++
  (["bare", "alike", "has_bad", "puts", "hit", "counted", "highest", "until", "check_player", "calls_of", "chance", "_chance"] : List PySem.Str) ++
  (["_law_cell", "_law_row", "_law_less", "_law_times", "_law_player", "_law_calls", "_law_game", "_law_finder", "law"] : List PySem.Str)
def step1 (g : Addr → Option Obj) (as : List Addr) : List Addr := as.flatMap fun a => match g a with
  | some ⟨_, _, .func fd, _⟩ => He.refV fd.code ++ He.refV fd.defaults
  | some ⟨_, _, .cls cd, _⟩ => [cd.ns]
  | some ⟨_, _, .dict es _, _⟩ => es.toList.flatMap fun e => He.refV e.val
  | _ => []
def asT (g : Addr → Option Obj) : List Addr :=
  (fun fs => (fun a1 => (fun a2 => (fun a3 => mainGlobals :: (fs ++ (a1 ++ (a2 ++ a3)))) (step1 g a2)) (step1 g a1)) (step1 g fs)) (roots.map (He.ga (He.frG g [mainGlobals])))
/-- the classes stand apart -/
def clsL (K : PySem.W.Frag) : List Addr := ["Ratio", "Moment", "Runner", "Look", "Bound", "Game", "Derivation"].map fun (x : String) => He.ga K x
def apartB : List Addr → Bool
  | [] => true
  | a :: r => r.all (fun b => !(a == b)) && apartB r
/-- what isinstance asks of a class; what != asks of it -/
def isiB (K : PySem.W.Frag) (C : Addr) : Bool := He.eqO (PySem.W.findIn K (.ref C) "__class__") (some (some (.builtin "object.__class__"))) &&
  (He.eqO (PySem.W.specialIn K (.builtin "object.__class__") "__get__") (some (some (.builtin "getset_descriptor.__get__"))) && (decide (PySem.W.takesIn K (.builtin "object.__class__") = some true) && decide (PySem.W.mroIn K C (.type "object") = some true)))
def neB (K : PySem.W.Frag) (C : Addr) : Bool := PySem.W.selfFirst K C && He.eqO (PySem.W.findIn K (.ref C) "__ne__") (some (some (.builtin "object.__ne__")))
def ex (K : PySem.W.Frag) : Bool := apartB (clsL K) && (isiB K (He.ga K "Ratio") && (isiB K (He.ga K "Game") && (neB K (He.ga K "Ratio") && (neB K (He.ga K "Game") &&
  He.tupB K "SAME" [.str "fold", .str "swap", .str "drop", .str "toss", .str "shift", .str "sink", .str "erase", .str "spell"]))))
abbrev AlT : Type := He.AlD × Bool
def obsT (g : Addr → Option Obj) : AlT := (He.obsD fas fns (He.frG g (asT g)), ex (He.frG g (asT g)))
def SaysT (K : PySem.W.Frag) : Prop := He.SaysD fas fns K ∧ ex K = true
/-- the module's facts, as a walk wants them -/
structure Tx (K : PySem.W.Frag) (mg : Str → Option Value) : Prop where
  says : SaysT K
  hp : ∃ h : Heap, K.In h ∧ h.Ns mainGlobals mg
section
variable {K : PySem.W.Frag} {mg : Str → Option Value}
theorem Tx.fact (T : Tx K mg) (i : Nat) {f : He.Fa} (h : fas[i]? = some f := by rfl) : f.ok K = true := T.says.1.fact i h
theorem Tx.gl (T : Tx K mg) {x : Str} (c : (He.Fa.glo x).ok K = true) : mg x = some (.ref (He.ga K x)) := let ⟨_, X, G⟩ := T.hp; He.glo_ok X G c
theorem Tx.fr (T : Tx K mg) {x : Str} (c : (He.Fa.free x).ok K = true) : mg x = none := let ⟨_, X, G⟩ := T.hp; He.free_ok X G c
theorem Tx.it (T : Tx K mg) {x : Str} {i : Int} (c : (He.Fa.int x i).ok K = true) : ∃ t, mg x = some (.int i t) := let ⟨_, X, G⟩ := T.hp; He.int_ok X G c
end
/-- a def of the text as it stands behind the top -/
abbrev FnX (K : PySem.W.Frag) (d : He.DefD) (fd : FuncData) : Prop := FunD K d.name d.qual d.params d.body d.scope (d.dvs K) (d.kws K) (He.fAd K d.at_) fd
section
variable {K : PySem.W.Frag} {mg : Str → Option Value}
theorem Tx.cl_Ratio (T : Tx K mg) : Cls K (He.ga K "Ratio") := He.cls_ok (T.fact 0)
theorem Tx.mk_Ratio (T : Tx K mg) : Mk K (He.ga K "Ratio") (He.ma K (He.ga K "Ratio") "__init__") := He.mkr_ok (T.fact 1)
theorem Tx.g_Ratio (T : Tx K mg) : mg "Ratio" = some (.ref (He.ga K "Ratio")) := T.gl (T.fact 2)
theorem Tx.n_Ratio_num (T : Tx K mg) : NoAttr K (He.ga K "Ratio") "num" := He.noat_ok (T.fact 3)
theorem Tx.n_Ratio_den (T : Tx K mg) : NoAttr K (He.ga K "Ratio") "den" := He.noat_ok (T.fact 4)
theorem Tx.m_Ratio_init (T : Tx K mg) : Meth K (He.ga K "Ratio") "__init__" (He.ma K (He.ga K "Ratio") "__init__") := He.meth_ok (T.fact 5)
theorem Tx.m_Ratio_add (T : Tx K mg) : Meth K (He.ga K "Ratio") "__add__" (He.ma K (He.ga K "Ratio") "__add__") := He.meth_ok (T.fact 6)
theorem Tx.m_Ratio_sub (T : Tx K mg) : Meth K (He.ga K "Ratio") "__sub__" (He.ma K (He.ga K "Ratio") "__sub__") := He.meth_ok (T.fact 7)
theorem Tx.m_Ratio_mul (T : Tx K mg) : Meth K (He.ga K "Ratio") "__mul__" (He.ma K (He.ga K "Ratio") "__mul__") := He.meth_ok (T.fact 8)
theorem Tx.m_Ratio_eq (T : Tx K mg) : Meth K (He.ga K "Ratio") "__eq__" (He.ma K (He.ga K "Ratio") "__eq__") := He.meth_ok (T.fact 9)
theorem Tx.m_Ratio_below (T : Tx K mg) : Meth K (He.ga K "Ratio") "below" (He.ma K (He.ga K "Ratio") "below") := He.meth_ok (T.fact 10)
theorem Tx.cl_Moment (T : Tx K mg) : Cls K (He.ga K "Moment") := He.cls_ok (T.fact 11)
theorem Tx.mk_Moment (T : Tx K mg) : Mk K (He.ga K "Moment") (He.ma K (He.ga K "Moment") "__init__") := He.mkr_ok (T.fact 12)
theorem Tx.g_Moment (T : Tx K mg) : mg "Moment" = some (.ref (He.ga K "Moment")) := T.gl (T.fact 13)
theorem Tx.n_Moment_held (T : Tx K mg) : NoAttr K (He.ga K "Moment") "held" := He.noat_ok (T.fact 14)
theorem Tx.n_Moment_tables (T : Tx K mg) : NoAttr K (He.ga K "Moment") "tables" := He.noat_ok (T.fact 15)
theorem Tx.n_Moment_lots (T : Tx K mg) : NoAttr K (He.ga K "Moment") "lots" := He.noat_ok (T.fact 16)
theorem Tx.n_Moment_bad (T : Tx K mg) : NoAttr K (He.ga K "Moment") "bad" := He.noat_ok (T.fact 17)
theorem Tx.n_Moment_names (T : Tx K mg) : NoAttr K (He.ga K "Moment") "names" := He.noat_ok (T.fact 18)
theorem Tx.n_Moment_pending (T : Tx K mg) : NoAttr K (He.ga K "Moment") "pending" := He.noat_ok (T.fact 19)
theorem Tx.m_Moment_init (T : Tx K mg) : Meth K (He.ga K "Moment") "__init__" (He.ma K (He.ga K "Moment") "__init__") := He.meth_ok (T.fact 20)
theorem Tx.m_Moment_state (T : Tx K mg) : Meth K (He.ga K "Moment") "state" (He.ma K (He.ga K "Moment") "state") := He.meth_ok (T.fact 21)
theorem Tx.m_Moment_copy (T : Tx K mg) : Meth K (He.ga K "Moment") "copy" (He.ma K (He.ga K "Moment") "copy") := He.meth_ok (T.fact 22)
theorem Tx.cl_Runner (T : Tx K mg) : Cls K (He.ga K "Runner") := He.cls_ok (T.fact 23)
theorem Tx.mk_Runner (T : Tx K mg) : Mk K (He.ga K "Runner") (He.ma K (He.ga K "Runner") "__init__") := He.mkr_ok (T.fact 24)
theorem Tx.g_Runner (T : Tx K mg) : mg "Runner" = some (.ref (He.ga K "Runner")) := T.gl (T.fact 25)
theorem Tx.n_Runner_game (T : Tx K mg) : NoAttr K (He.ga K "Runner") "game" := He.noat_ok (T.fact 26)
theorem Tx.m_Runner_init (T : Tx K mg) : Meth K (He.ga K "Runner") "__init__" (He.ma K (He.ga K "Runner") "__init__") := He.meth_ok (T.fact 27)
theorem Tx.m_Runner_table (T : Tx K mg) : Meth K (He.ga K "Runner") "table" (He.ma K (He.ga K "Runner") "table") := He.meth_ok (T.fact 28)
theorem Tx.m_Runner_value (T : Tx K mg) : Meth K (He.ga K "Runner") "value" (He.ma K (He.ga K "Runner") "value") := He.meth_ok (T.fact 29)
theorem Tx.m_Runner_ends (T : Tx K mg) : Meth K (He.ga K "Runner") "ends" (He.ma K (He.ga K "Runner") "ends") := He.meth_ok (T.fact 30)
theorem Tx.m_Runner_stacked (T : Tx K mg) : Meth K (He.ga K "Runner") "stacked" (He.ma K (He.ga K "Runner") "stacked") := He.meth_ok (T.fact 31)
theorem Tx.m_Runner_go (T : Tx K mg) : Meth K (He.ga K "Runner") "go" (He.ma K (He.ga K "Runner") "go") := He.meth_ok (T.fact 32)
theorem Tx.m_Runner_drawn (T : Tx K mg) : Meth K (He.ga K "Runner") "drawn" (He.ma K (He.ga K "Runner") "drawn") := He.meth_ok (T.fact 33)
theorem Tx.m_Runner_plain (T : Tx K mg) : Meth K (He.ga K "Runner") "plain" (He.ma K (He.ga K "Runner") "plain") := He.meth_ok (T.fact 34)
theorem Tx.cl_Look (T : Tx K mg) : Cls K (He.ga K "Look") := He.cls_ok (T.fact 35)
theorem Tx.mk_Look (T : Tx K mg) : Mk K (He.ga K "Look") (He.ma K (He.ga K "Look") "__init__") := He.mkr_ok (T.fact 36)
theorem Tx.g_Look (T : Tx K mg) : mg "Look" = some (.ref (He.ga K "Look")) := T.gl (T.fact 37)
theorem Tx.n_Look_runners (T : Tx K mg) : NoAttr K (He.ga K "Look") "runners" := He.noat_ok (T.fact 38)
theorem Tx.n_Look_asks (T : Tx K mg) : NoAttr K (He.ga K "Look") "asks" := He.noat_ok (T.fact 39)
theorem Tx.n_Look_left (T : Tx K mg) : NoAttr K (He.ga K "Look") "left" := He.noat_ok (T.fact 40)
theorem Tx.m_Look_init (T : Tx K mg) : Meth K (He.ga K "Look") "__init__" (He.ma K (He.ga K "Look") "__init__") := He.meth_ok (T.fact 41)
theorem Tx.m_Look_best (T : Tx K mg) : Meth K (He.ga K "Look") "best" (He.ma K (He.ga K "Look") "best") := He.meth_ok (T.fact 42)
theorem Tx.m_Look_asked (T : Tx K mg) : Meth K (He.ga K "Look") "asked" (He.ma K (He.ga K "Look") "asked") := He.meth_ok (T.fact 43)
theorem Tx.m_Look_split (T : Tx K mg) : Meth K (He.ga K "Look") "split" (He.ma K (He.ga K "Look") "split") := He.meth_ok (T.fact 44)
theorem Tx.cl_Bound (T : Tx K mg) : Cls K (He.ga K "Bound") := He.cls_ok (T.fact 45)
theorem Tx.mk_Bound (T : Tx K mg) : Mk K (He.ga K "Bound") (He.ma K (He.ga K "Bound") "__init__") := He.mkr_ok (T.fact 46)
theorem Tx.g_Bound (T : Tx K mg) : mg "Bound" = some (.ref (He.ga K "Bound")) := T.gl (T.fact 47)
theorem Tx.n_Bound_flat (T : Tx K mg) : NoAttr K (He.ga K "Bound") "flat" := He.noat_ok (T.fact 48)
theorem Tx.n_Bound_first (T : Tx K mg) : NoAttr K (He.ga K "Bound") "first" := He.noat_ok (T.fact 49)
theorem Tx.n_Bound_more (T : Tx K mg) : NoAttr K (He.ga K "Bound") "more" := He.noat_ok (T.fact 50)
theorem Tx.n_Bound_limit (T : Tx K mg) : NoAttr K (He.ga K "Bound") "limit" := He.noat_ok (T.fact 51)
theorem Tx.m_Bound_init (T : Tx K mg) : Meth K (He.ga K "Bound") "__init__" (He.ma K (He.ga K "Bound") "__init__") := He.meth_ok (T.fact 52)
theorem Tx.m_Bound_at (T : Tx K mg) : Meth K (He.ga K "Bound") "at" (He.ma K (He.ga K "Bound") "at") := He.meth_ok (T.fact 53)
theorem Tx.m_Bound_plus (T : Tx K mg) : Meth K (He.ga K "Bound") "plus" (He.ma K (He.ga K "Bound") "plus") := He.meth_ok (T.fact 54)
theorem Tx.cl_Game (T : Tx K mg) : Cls K (He.ga K "Game") := He.cls_ok (T.fact 55)
theorem Tx.mk_Game (T : Tx K mg) : Mk K (He.ga K "Game") (He.ma K (He.ga K "Game") "__init__") := He.mkr_ok (T.fact 56)
theorem Tx.g_Game (T : Tx K mg) : mg "Game" = some (.ref (He.ga K "Game")) := T.gl (T.fact 57)
theorem Tx.n_Game_variables (T : Tx K mg) : NoAttr K (He.ga K "Game") "variables" := He.noat_ok (T.fact 58)
theorem Tx.n_Game_tables (T : Tx K mg) : NoAttr K (He.ga K "Game") "tables" := He.noat_ok (T.fact 59)
theorem Tx.n_Game_lots (T : Tx K mg) : NoAttr K (He.ga K "Game") "lots" := He.noat_ok (T.fact 60)
theorem Tx.n_Game_procs (T : Tx K mg) : NoAttr K (He.ga K "Game") "procs" := He.noat_ok (T.fact 61)
theorem Tx.m_Game_init (T : Tx K mg) : Meth K (He.ga K "Game") "__init__" (He.ma K (He.ga K "Game") "__init__") := He.meth_ok (T.fact 62)
theorem Tx.m_Game_eq (T : Tx K mg) : Meth K (He.ga K "Game") "__eq__" (He.ma K (He.ga K "Game") "__eq__") := He.meth_ok (T.fact 63)
theorem Tx.m_Game_parts (T : Tx K mg) : Meth K (He.ga K "Game") "parts" (He.ma K (He.ga K "Game") "parts") := He.meth_ok (T.fact 64)
theorem Tx.m_Game_proc (T : Tx K mg) : Meth K (He.ga K "Game") "proc" (He.ma K (He.ga K "Game") "proc") := He.meth_ok (T.fact 65)
theorem Tx.cl_Derivation (T : Tx K mg) : Cls K (He.ga K "Derivation") := He.cls_ok (T.fact 66)
theorem Tx.mk_Derivation (T : Tx K mg) : Mk K (He.ga K "Derivation") (He.ma K (He.ga K "Derivation") "__init__") := He.mkr_ok (T.fact 67)
theorem Tx.g_Derivation (T : Tx K mg) : mg "Derivation" = some (.ref (He.ga K "Derivation")) := T.gl (T.fact 68)
theorem Tx.n_Derivation_first (T : Tx K mg) : NoAttr K (He.ga K "Derivation") "first" := He.noat_ok (T.fact 69)
theorem Tx.n_Derivation_last (T : Tx K mg) : NoAttr K (He.ga K "Derivation") "last" := He.noat_ok (T.fact 70)
theorem Tx.n_Derivation_bound (T : Tx K mg) : NoAttr K (He.ga K "Derivation") "bound" := He.noat_ok (T.fact 71)
theorem Tx.m_Derivation_init (T : Tx K mg) : Meth K (He.ga K "Derivation") "__init__" (He.ma K (He.ga K "Derivation") "__init__") := He.meth_ok (T.fact 72)
theorem Tx.m_Derivation_step (T : Tx K mg) : Meth K (He.ga K "Derivation") "step" (He.ma K (He.ga K "Derivation") "step") := He.meth_ok (T.fact 73)
theorem Tx.m_Derivation_move (T : Tx K mg) : Meth K (He.ga K "Derivation") "move" (He.ma K (He.ga K "Derivation") "move") := He.meth_ok (T.fact 74)
theorem Tx.g_total (T : Tx K mg) : mg "total" = some (.ref (He.ga K "total")) := T.gl (T.fact 75)
theorem Tx.g_first_state (T : Tx K mg) : mg "first_state" = some (.ref (He.ga K "first_state")) := T.gl (T.fact 76)
theorem Tx.g_combine (T : Tx K mg) : mg "combine" = some (.ref (He.ga K "combine")) := T.gl (T.fact 77)
theorem Tx.g_face (T : Tx K mg) : mg "face" = some (.ref (He.ga K "face")) := T.gl (T.fact 78)
theorem Tx.g_best_player (T : Tx K mg) : mg "best_player" = some (.ref (He.ga K "best_player")) := T.gl (T.fact 79)
theorem Tx.g_apart (T : Tx K mg) : mg "apart" = some (.ref (He.ga K "apart")) := T.gl (T.fact 80)
theorem Tx.g_nothing (T : Tx K mg) : mg "nothing" = some (.ref (He.ga K "nothing")) := T.gl (T.fact 81)
theorem Tx.g_bare (T : Tx K mg) : mg "bare" = some (.ref (He.ga K "bare")) := T.gl (T.fact 82)
theorem Tx.g_alike (T : Tx K mg) : mg "alike" = some (.ref (He.ga K "alike")) := T.gl (T.fact 83)
theorem Tx.g_has_bad (T : Tx K mg) : mg "has_bad" = some (.ref (He.ga K "has_bad")) := T.gl (T.fact 84)
theorem Tx.g_puts (T : Tx K mg) : mg "puts" = some (.ref (He.ga K "puts")) := T.gl (T.fact 85)
theorem Tx.g_hit (T : Tx K mg) : mg "hit" = some (.ref (He.ga K "hit")) := T.gl (T.fact 86)
theorem Tx.g_counted (T : Tx K mg) : mg "counted" = some (.ref (He.ga K "counted")) := T.gl (T.fact 87)
theorem Tx.g_highest (T : Tx K mg) : mg "highest" = some (.ref (He.ga K "highest")) := T.gl (T.fact 88)
theorem Tx.g_until (T : Tx K mg) : mg "until" = some (.ref (He.ga K "until")) := T.gl (T.fact 89)
theorem Tx.g_check_player (T : Tx K mg) : mg "check_player" = some (.ref (He.ga K "check_player")) := T.gl (T.fact 90)
theorem Tx.g_calls_of (T : Tx K mg) : mg "calls_of" = some (.ref (He.ga K "calls_of")) := T.gl (T.fact 91)
theorem Tx.g_chance (T : Tx K mg) : mg "chance" = some (.ref (He.ga K "chance")) := T.gl (T.fact 92)
theorem Tx.g_chance_in (T : Tx K mg) : mg "_chance" = some (.ref (He.ga K "_chance")) := T.gl (T.fact 93)
theorem Tx.g_l_cell (T : Tx K mg) : mg "_law_cell" = some (.ref (He.ga K "_law_cell")) := T.gl (T.fact 94)
theorem Tx.g_l_row (T : Tx K mg) : mg "_law_row" = some (.ref (He.ga K "_law_row")) := T.gl (T.fact 95)
theorem Tx.g_l_less (T : Tx K mg) : mg "_law_less" = some (.ref (He.ga K "_law_less")) := T.gl (T.fact 96)
theorem Tx.g_l_times (T : Tx K mg) : mg "_law_times" = some (.ref (He.ga K "_law_times")) := T.gl (T.fact 97)
theorem Tx.g_l_player (T : Tx K mg) : mg "_law_player" = some (.ref (He.ga K "_law_player")) := T.gl (T.fact 98)
theorem Tx.g_l_calls (T : Tx K mg) : mg "_law_calls" = some (.ref (He.ga K "_law_calls")) := T.gl (T.fact 99)
theorem Tx.g_l_game (T : Tx K mg) : mg "_law_game" = some (.ref (He.ga K "_law_game")) := T.gl (T.fact 100)
theorem Tx.g_l_finder (T : Tx K mg) : mg "_law_finder" = some (.ref (He.ga K "_law_finder")) := T.gl (T.fact 101)
theorem Tx.g_law (T : Tx K mg) : mg "law" = some (.ref (He.ga K "law")) := T.gl (T.fact 102)
theorem Tx.f_abs (T : Tx K mg) : mg "abs" = none := T.fr (T.fact 103)
theorem Tx.f_isinstance (T : Tx K mg) : mg "isinstance" = none := T.fr (T.fact 104)
theorem Tx.f_len (T : Tx K mg) : mg "len" = none := T.fr (T.fact 105)
theorem Tx.f_list (T : Tx K mg) : mg "list" = none := T.fr (T.fact 106)
theorem Tx.f_tuple (T : Tx K mg) : mg "tuple" = none := T.fr (T.fact 107)
theorem Tx.f_dict (T : Tx K mg) : mg "dict" = none := T.fr (T.fact 108)
theorem Tx.f_sorted (T : Tx K mg) : mg "sorted" = none := T.fr (T.fact 109)
theorem Tx.f_int (T : Tx K mg) : mg "int" = none := T.fr (T.fact 110)
theorem Tx.f_reversed (T : Tx K mg) : mg "reversed" = none := T.fr (T.fact 111)
theorem Tx.f_range (T : Tx K mg) : mg "range" = none := T.fr (T.fact 112)
theorem Tx.f_zip (T : Tx K mg) : mg "zip" = none := T.fr (T.fact 113)
theorem Tx.f_enumerate (T : Tx K mg) : mg "enumerate" = none := T.fr (T.fact 114)
theorem Tx.f_max (T : Tx K mg) : mg "max" = none := T.fr (T.fact 115)
theorem Tx.f_min (T : Tx K mg) : mg "min" = none := T.fr (T.fact 116)
theorem Tx.f_any (T : Tx K mg) : mg "any" = none := T.fr (T.fact 117)
theorem Tx.i_GREATEST (T : Tx K mg) : ∃ t, mg "GREATEST" = some (.int 65535 t) := T.it (T.fact 118)
theorem Tx.i_MOST_WAYS (T : Tx K mg) : ∃ t, mg "MOST_WAYS" = some (.int 5000 t) := T.it (T.fact 119)
theorem Tx.i_MOST_LOOKS (T : Tx K mg) : ∃ t, mg "MOST_LOOKS" = some (.int 3000 t) := T.it (T.fact 120)
theorem Tx.i_MOST_TOSS (T : Tx K mg) : ∃ t, mg "MOST_TOSS" = some (.int 16 t) := T.it (T.fact 121)
theorem Tx.g_SAME (T : Tx K mg) : mg "SAME" = some (.ref (He.ga K "SAME")) := T.gl (T.fact 122)
theorem Tx.d_Ratio_init (T : Tx K mg) : ∃ fd, FnX K d_Ratio_init fd := T.says.1.def_ 0
theorem Tx.d_Ratio_add (T : Tx K mg) : ∃ fd, FnX K d_Ratio_add fd := T.says.1.def_ 1
theorem Tx.d_Ratio_sub (T : Tx K mg) : ∃ fd, FnX K d_Ratio_sub fd := T.says.1.def_ 2
theorem Tx.d_Ratio_mul (T : Tx K mg) : ∃ fd, FnX K d_Ratio_mul fd := T.says.1.def_ 3
theorem Tx.d_Ratio_eq (T : Tx K mg) : ∃ fd, FnX K d_Ratio_eq fd := T.says.1.def_ 4
theorem Tx.d_Ratio_below (T : Tx K mg) : ∃ fd, FnX K d_Ratio_below fd := T.says.1.def_ 5
theorem Tx.d_Moment_init (T : Tx K mg) : ∃ fd, FnX K d_Moment_init fd := T.says.1.def_ 6
theorem Tx.d_Moment_state (T : Tx K mg) : ∃ fd, FnX K d_Moment_state fd := T.says.1.def_ 7
theorem Tx.d_Moment_copy (T : Tx K mg) : ∃ fd, FnX K d_Moment_copy fd := T.says.1.def_ 8
theorem Tx.d_Runner_init (T : Tx K mg) : ∃ fd, FnX K d_Runner_init fd := T.says.1.def_ 9
theorem Tx.d_Runner_table (T : Tx K mg) : ∃ fd, FnX K d_Runner_table fd := T.says.1.def_ 10
theorem Tx.d_Runner_value (T : Tx K mg) : ∃ fd, FnX K d_Runner_value fd := T.says.1.def_ 11
theorem Tx.d_Runner_ends (T : Tx K mg) : ∃ fd, FnX K d_Runner_ends fd := T.says.1.def_ 12
theorem Tx.d_Runner_stacked (T : Tx K mg) : ∃ fd, FnX K d_Runner_stacked fd := T.says.1.def_ 13
theorem Tx.d_Runner_go (T : Tx K mg) : ∃ fd, FnX K d_Runner_go fd := T.says.1.def_ 14
theorem Tx.d_Runner_drawn (T : Tx K mg) : ∃ fd, FnX K d_Runner_drawn fd := T.says.1.def_ 15
theorem Tx.d_Runner_plain (T : Tx K mg) : ∃ fd, FnX K d_Runner_plain fd := T.says.1.def_ 16
theorem Tx.d_Look_init (T : Tx K mg) : ∃ fd, FnX K d_Look_init fd := T.says.1.def_ 17
theorem Tx.d_Look_best (T : Tx K mg) : ∃ fd, FnX K d_Look_best fd := T.says.1.def_ 18
theorem Tx.d_Look_asked (T : Tx K mg) : ∃ fd, FnX K d_Look_asked fd := T.says.1.def_ 19
theorem Tx.d_Look_split (T : Tx K mg) : ∃ fd, FnX K d_Look_split fd := T.says.1.def_ 20
theorem Tx.d_Bound_init (T : Tx K mg) : ∃ fd, FnX K d_Bound_init fd := T.says.1.def_ 21
theorem Tx.d_Bound_at (T : Tx K mg) : ∃ fd, FnX K d_Bound_at fd := T.says.1.def_ 22
theorem Tx.d_Bound_plus (T : Tx K mg) : ∃ fd, FnX K d_Bound_plus fd := T.says.1.def_ 23
theorem Tx.d_Game_init (T : Tx K mg) : ∃ fd, FnX K d_Game_init fd := T.says.1.def_ 24
theorem Tx.d_Game_eq (T : Tx K mg) : ∃ fd, FnX K d_Game_eq fd := T.says.1.def_ 25
theorem Tx.d_Game_parts (T : Tx K mg) : ∃ fd, FnX K d_Game_parts fd := T.says.1.def_ 26
theorem Tx.d_Game_proc (T : Tx K mg) : ∃ fd, FnX K d_Game_proc fd := T.says.1.def_ 27
theorem Tx.d_Derivation_init (T : Tx K mg) : ∃ fd, FnX K d_Derivation_init fd := T.says.1.def_ 28
theorem Tx.d_Derivation_step (T : Tx K mg) : ∃ fd, FnX K d_Derivation_step fd := T.says.1.def_ 29
theorem Tx.d_Derivation_move (T : Tx K mg) : ∃ fd, FnX K d_Derivation_move fd := T.says.1.def_ 30
theorem Tx.d_total (T : Tx K mg) : ∃ fd, FnX K d_total fd := T.says.1.def_ 31
theorem Tx.d_first_state (T : Tx K mg) : ∃ fd, FnX K d_first_state fd := T.says.1.def_ 32
theorem Tx.d_combine (T : Tx K mg) : ∃ fd, FnX K d_combine fd := T.says.1.def_ 33
theorem Tx.d_face (T : Tx K mg) : ∃ fd, FnX K d_face fd := T.says.1.def_ 34
theorem Tx.d_best_player (T : Tx K mg) : ∃ fd, FnX K d_best_player fd := T.says.1.def_ 35
theorem Tx.d_apart (T : Tx K mg) : ∃ fd, FnX K d_apart fd := T.says.1.def_ 36
theorem Tx.d_nothing (T : Tx K mg) : ∃ fd, FnX K d_nothing fd := T.says.1.def_ 37
theorem Tx.d_bare (T : Tx K mg) : ∃ fd, FnX K d_bare fd := T.says.1.def_ 38
theorem Tx.d_alike (T : Tx K mg) : ∃ fd, FnX K d_alike fd := T.says.1.def_ 39
theorem Tx.d_has_bad (T : Tx K mg) : ∃ fd, FnX K d_has_bad fd := T.says.1.def_ 40
theorem Tx.d_puts (T : Tx K mg) : ∃ fd, FnX K d_puts fd := T.says.1.def_ 41
theorem Tx.d_hit (T : Tx K mg) : ∃ fd, FnX K d_hit fd := T.says.1.def_ 42
theorem Tx.d_counted (T : Tx K mg) : ∃ fd, FnX K d_counted fd := T.says.1.def_ 43
theorem Tx.d_highest (T : Tx K mg) : ∃ fd, FnX K d_highest fd := T.says.1.def_ 44
theorem Tx.d_until (T : Tx K mg) : ∃ fd, FnX K d_until fd := T.says.1.def_ 45
theorem Tx.d_check_player (T : Tx K mg) : ∃ fd, FnX K d_check_player fd := T.says.1.def_ 46
theorem Tx.d_calls_of (T : Tx K mg) : ∃ fd, FnX K d_calls_of fd := T.says.1.def_ 47
theorem Tx.d_chance (T : Tx K mg) : ∃ fd, FnX K d_chance fd := T.says.1.def_ 48
theorem Tx.d_chance_in (T : Tx K mg) : ∃ fd, FnX K d_chance_in fd := T.says.1.def_ 49
theorem Tx.d_l_cell (T : Tx K mg) : ∃ fd, FnX K d_l_cell fd := T.says.1.def_ 50
theorem Tx.d_l_row (T : Tx K mg) : ∃ fd, FnX K d_l_row fd := T.says.1.def_ 51
theorem Tx.d_l_less (T : Tx K mg) : ∃ fd, FnX K d_l_less fd := T.says.1.def_ 52
theorem Tx.d_l_times (T : Tx K mg) : ∃ fd, FnX K d_l_times fd := T.says.1.def_ 53
theorem Tx.d_l_player (T : Tx K mg) : ∃ fd, FnX K d_l_player fd := T.says.1.def_ 54
theorem Tx.d_l_calls (T : Tx K mg) : ∃ fd, FnX K d_l_calls fd := T.says.1.def_ 55
theorem Tx.d_l_game (T : Tx K mg) : ∃ fd, FnX K d_l_game fd := T.says.1.def_ 56
theorem Tx.d_l_finder (T : Tx K mg) : ∃ fd, FnX K d_l_finder fd := T.says.1.def_ 57
theorem Tx.d_law (T : Tx K mg) : ∃ fd, FnX K d_law fd := T.says.1.def_ 58
end
end Tn
set_option Elab.async false
set_option linter.all false
set_option maxRecDepth 100000
set_option maxHeartbeats 0
namespace Tn
open PySem PySem.Spec PyProof.Rows L2
def hkT : PySem.W.Hook where
  α := AlT
  obs := fun s => obsT s.heap.get?
  val := fun _ => (He.valD fns, true)
  says := fun _ h => ∃ K : PySem.W.Frag, K.In h ∧ SaysT K
  of := fun _ _ e => ⟨_, He.frG_in, (Prod.mk.inj e).1, (Prod.mk.inj e).2⟩
  keeps := fun _ _ _ ⟨K, hK, c⟩ k => ⟨K, PySem.W.Frag.In.keeps hK k, c⟩
theorem obsT_eq {g : Addr → Option Obj} {s : Shared} (h : ∀ a, g a = s.heap.get? a) : obsT g = hkT.obs s := by
  have e : g = s.heap.get? := funext h
  rw [e]
  all_goals rfl
abbrev R : PySem.W.OpenRow := PySem.W.OpenLaw.row PySem.Challenge.rw_tellsnone_k63_whole_numbers_that_come_tw
def ob (s : PySem.W.SharedT) : AlT := obsT (HandSHeadRun.getT s)
theorem ob_eq (s : PySem.W.SharedT) : ob s = hkT.obs s.abs := obsT_eq (HandSHeadRun.getT_eq s)
theorem run (w : World) : HandSHeadRun.RunEq R (PySem.W.view R.prog [96]) hkT ob 20000 names w := by
  intro os
  kernel_rfl
end Tn
set_option Elab.async false
set_option linter.all false
set_option maxRecDepth 100000
set_option maxHeartbeats 0
namespace Tn
open PySem PySem.Spec PyProof.Rows L2
def spLaw (K : PySem.W.Frag) : Sp := fun vs H Q _ => ∃ (l : Addr) (ns : List Int), vs = [.ref l] ∧ SqL K H l (ns.map V.int) ∧ ∀ H', Q (.bl true) H'
/-- what the walks are to show of the law's def -/
def LawAt : Prop := ∀ (P : Program) (w : World) (K : PySem.W.Frag) (h : Heap) (mg : Str → Option Value) (f : Addr), K.In h → h.Ns mainGlobals mg → mg ("law" : Str) = some (.ref f) → SaysT K →
    ∃ fd : FuncData, (∀ (s : Shared) (v : Value), BindsTo s fd ⟨[v], []⟩ [("_law_script", v)]) ∧ ∀ base : Heap, K.In base → base.Ns mainGlobals mg → FnOk P w K mg base CX0 30 f fd ["_law_script"] (spLaw K)
end Tn
section
open PySem PySem.W PySem.Calls PyProof.Rows
theorem Tn.holds_of (walks : Tn.LawAt) : PySem.Challenge.rw_tellsnone_k63_whole_numbers_that_come_tw.Holds := by
  w_on; o_law
  refine HandSHeadRun.head_any (r := Tn.R) (q := view Tn.R.prog [96]) (H := Tn.hkT) (ob := Tn.ob) (M := 20000) (loose := Tn.names) (d := HandSHeadRun.topDef Tn.R.prog 96) (kwd := []) Tn.ob_eq
    (by kernel_rfl) (fun s => by kernel_rfl) Tn.run (by kernel_rfl) (by kernel_rfl) (by kernel_rfl) (by rfl) (by first | assumption | decide +kernel) (by decide +kernel) ⟨rfl, rfl, rfl, rfl, rfl, by decide +kernel⟩ ?hw ?hc
  case hw => w_witness2
  case hc =>
    refine L2.walk_ofE (l := PySem.Challenge.rw_tellsnone_k63_whole_numbers_that_come_tw) (n := 63) (k := 30) (x := "_law_script") (CX := L2.CX0) rfl (by decide) (by kernel_rfl) ⟨rfl, by decide, by decide⟩ ?F (fun _ _ _ _ z => z)
    intro w mg fa h Y G hmg0
    obtain ⟨K, KX, c⟩ := Y
    have hmg : mg ("law" : PySem.Str) = some (.ref fa) := by
      have e : (HandSHeadRun.topDef Tn.R.prog 96).name = ("law" : PySem.Str) := by kernel_rfl
      rw [← e]
      exact hmg0
    obtain ⟨fd, hb, hF⟩ := walks (PySem.Challenge.rw_tellsnone_k63_whole_numbers_that_come_tw).prog w K h mg fa KX G hmg c
    exact ⟨K, fd, Tn.spLaw K, KX, hb, fun H a ns hl _ hS => ⟨a, ns, rfl, hS, fun _ => rfl⟩, hF⟩
end
set_option Elab.async false
set_option linter.all false
set_option maxRecDepth 100000
set_option maxHeartbeats 4000000
namespace Tn
open PySem PySem.Spec PyProof.Rows L2

/-! ### heaps -/
section
variable {H H' H1 H2 : Hp} {a l p : Addr} {o u : HO}
/-- all but l is as it was -/
def But (l : Addr) (H H' : Hp) : Prop := ∀ a o, a ≠ l → H a = some o → H' a = some o
theorem But.upd {o : HO} : But l H (L2.upd H l o) := fun a u n e => (upd_ne n).trans e
theorem Same.app (s : Same H H') (h : H a = some o) : H' a = some o := s a o h
theorem But.app (b : But l H H') (hl : H l = some u) (d : o ≠ u) (h : H a = some o) : H' a = some o := b a o (ne_of h hl d) h
theorem But.app' (b : But l H H') (n : a ≠ l) (h : H a = some o) : H' a = some o := b a o n h
theorem Same.new (h : H p = none) : Same H (upd H p o) := fun a u e => (upd_ne (ne_of_none e h)).trans e
/-- an object that H does not know may change -/
theorem Same.but (s : Same H H1) (h : H l = none) (b : But l H1 H2) : Same H H2 := fun a o e => b a o (ne_of_none e h) (s a o e)
theorem But.same (b : But l H H1) (s : Same H1 H2) : But l H H2 := fun a o n e => s a o (b a o n e)
theorem Same.buts (s : Same H H1) (b : But l H1 H2) : But l H H2 := fun a o n e => b a o n (s a o e)
theorem But.trans (b : But l H H1) (c : But l H1 H2) : But l H H2 := fun a o n e => c a o n (b a o n e)
end
/-- what never changes once it stands: tuples, ratios, games, runners, bounds -/
def Frz (K : PySem.W.Frag) : HO → Prop
  | .tup _ => True
  | .frz _ _ => True
  | .ins C _ _ => C = He.ga K "Ratio" ∨ C = He.ga K "Game" ∨ C = He.ga K "Runner" ∨ C = He.ga K "Bound"
  | _ => False
def Fz (K : PySem.W.Frag) (H H' : Hp) : Prop := ∀ a o, Frz K o → H a = some o → H' a = some o
section
variable {K : PySem.W.Frag} {H H' H1 H2 : Hp} {a l p : Addr} {o u : HO}
theorem Fz.refl : Fz K H H := fun _ _ _ e => e
theorem Fz.trans (x : Fz K H H1) (y : Fz K H1 H2) : Fz K H H2 := fun a o f e => y a o f (x a o f e)
theorem Fz.same (s : Same H H') : Fz K H H' := fun a o _ e => s a o e
theorem Fz.but (b : But l H H') (hl : H l = some u) (n : ¬ Frz K u) : Fz K H H' := fun a o f e => b a o (ne_of e hl fun z => n (z ▸ f)) e
theorem nf_lst {xs : List V} : ¬ Frz K (.lst xs) := fun z => z
theorem nf_dK {xs : List (Key × V)} : ¬ Frz K (.dK xs) := fun z => z
theorem nf_ext {φ : Heap → Prop} : ¬ Frz K (.ext φ) := fun z => z
theorem fz_tup {xs : List V} : Frz K (.tup xs) := trivial
end

/-- known objects stay -/
def Tz (H H' : Hp) : Prop := ∀ a o u, H a = some (.frz o u) → H' a = some (.frz o u)
theorem Tz.same {H H' : Hp} (s : Same H H') : Tz H H' := fun a o u e => s a _ e
theorem Tz.but {H H' : Hp} {l : Addr} {u : HO} (b : But l H H') (hl : H l = some u) (n : ∀ o v, u ≠ .frz o v) : Tz H H' := fun a o v e => b a _ (ne_of e hl fun z => n o v z.symm) e
theorem Tz.trans {H H1 H2 : Hp} (x : Tz H H1) (y : Tz H1 H2) : Tz H H2 := fun a o u e => y a o u (x a o u e)
theorem Tz.of {K : PySem.W.Frag} {H H' : Hp} (z : Fz K H H') : Tz H H' := fun a o u e => z a _ trivial e
/-- a tuple of the program's own making: its very object is known -/
def TU (H : Hp) (a : Addr) (xs : List V) : Prop := ∃ o : Obj, o.dict = none ∧ H a = some (.frz o (.tup xs))
theorem TU.fz {K : PySem.W.Frag} {H H' : Hp} {a : Addr} {xs : List V} (z : Fz K H H') (h : TU H a xs) : TU H' a xs := let ⟨o, d, e⟩ := h; ⟨o, d, z _ _ trivial e⟩
theorem TU.tz {H H' : Hp} {a : Addr} {xs : List V} (z : Tz H H') (h : TU H a xs) : TU H' a xs := let ⟨o, d, e⟩ := h; ⟨o, d, z _ _ _ e⟩
theorem TU.same {H H' : Hp} {a : Addr} {xs : List V} (s : Same H H') (h : TU H a xs) : TU H' a xs := let ⟨o, d, e⟩ := h; ⟨o, d, s _ _ e⟩
theorem TU.sq {K : PySem.W.Frag} {H : Hp} {a : Addr} {xs : List V} (h : TU H a xs) : SqT K H a xs := let ⟨o, _, e⟩ := h; Or.inl (Or.inr ⟨o, e⟩)
/-! ### trees of tuples -/
mutual
inductive Rp (H : Hp) : V → PyData → Prop
  | non : Rp H .non .none
  | bl (b : Bool) : Rp H (.bl b) (.bool b)
  | int (i : Int) : Rp H (.int i) (.int i)
  | str (x : Str) : Rp H (.str x) (.str x)
  | tup {a : Addr} {xs : List V} {ds : List PyData} : TU H a xs → RpL H xs ds → Rp H (.ref a) (.tuple ds)
inductive RpL (H : Hp) : List V → List PyData → Prop
  | nil : RpL H [] []
  | cons {v : V} {vs : List V} {d : PyData} {ds : List PyData} : Rp H v d → RpL H vs ds → RpL H (v :: vs) (d :: ds)
end
section
variable {K : PySem.W.Frag} {H H' : Hp}
mutual
theorem Rp.tz (z : Tz H H') : ∀ {v : V} {d : PyData}, Rp H v d → Rp H' v d
  | _, _, .non => .non
  | _, _, .bl b => .bl b
  | _, _, .int i => .int i
  | _, _, .str x => .str x
  | _, _, .tup h t => .tup (h.tz z) (RpL.tz z t)
theorem RpL.tz (z : Tz H H') : ∀ {vs : List V} {ds : List PyData}, RpL H vs ds → RpL H' vs ds
  | _, _, .nil => .nil
  | _, _, .cons h t => .cons (Rp.tz z h) (RpL.tz z t)
end
theorem Rp.fz {v : V} {d : PyData} (z : Fz K H H') (h : Rp H v d) : Rp H' v d := h.tz (Tz.of z)
theorem RpL.fz {v : List V} {d : List PyData} (z : Fz K H H') (h : RpL H v d) : RpL H' v d := h.tz (Tz.of z)
theorem Rp.same {v : V} {d : PyData} (s : Same H H') (h : Rp H v d) : Rp H' v d := h.fz (K := ([] : PySem.W.Frag)) (Fz.same s)
theorem RpL.same {v : List V} {d : List PyData} (s : Same H H') (h : RpL H v d) : RpL H' v d := h.fz (K := ([] : PySem.W.Frag)) (Fz.same s)
mutual
theorem Rp.dp : ∀ {v : V} {d : PyData}, Rp H v d → Dp K H v d
  | _, _, .non => .non
  | _, _, .bl b => .bl b
  | _, _, .int i => .int i
  | _, _, .str x => .str x
  | _, _, .tup h t => .tup h.sq (RpL.dp t)
theorem RpL.dp : ∀ {vs : List V} {ds : List PyData}, RpL H vs ds → DpAll K H vs ds
  | _, _, .nil => .nil
  | _, _, .cons h t => .cons (Rp.dp h) (RpL.dp t)
end
theorem Rp.s_ {v : V} {x : Str} (h : Rp H v (.str x)) : v = .str x := by cases h; rfl
theorem Rp.i_ {v : V} {x : Int} (h : Rp H v (.int x)) : v = .int x := by cases h; rfl
theorem Rp.b_ {v : V} {x : Bool} (h : Rp H v (.bool x)) : v = .bl x := by cases h; rfl
theorem Rp.n_ {v : V} (h : Rp H v .none) : v = .non := by cases h; rfl
theorem Rp.t_ {v : V} {ds : List PyData} (h : Rp H v (.tuple ds)) : ∃ a xs, v = .ref a ∧ TU H a xs ∧ RpL H xs ds := by
  cases h with
  | tup h t => exact ⟨_, _, rfl, h, t⟩
theorem RpL.len : ∀ {vs : List V} {ds : List PyData}, RpL H vs ds → vs.length = ds.length
  | _, _, .nil => rfl
  | _, _, .cons _ t => congrArg (· + 1) (RpL.len t)
theorem RpL.get : ∀ {vs : List V} {ds : List PyData} {i : Nat} {d : PyData}, RpL H vs ds → ds[i]? = some d → ∃ v, vs[i]? = some v ∧ Rp H v d
  | _, _, _, _, .nil, e => by simp at e
  | _, _, 0, _, .cons h _, e => by
    simp at e
    subst e
    exact ⟨_, rfl, h⟩
  | _, _, i + 1, _, .cons _ t, e => by
    obtain ⟨v, h1, h2⟩ := RpL.get (i := i) t (by simpa using e)
    exact ⟨v, by simpa using h1, h2⟩
theorem RpL.get' : ∀ {vs : List V} {ds : List PyData} {i : Nat} {v : V}, RpL H vs ds → vs[i]? = some v → ∃ d, ds[i]? = some d ∧ Rp H v d
  | _, _, _, _, .nil, e => by simp at e
  | _, _, 0, _, .cons h _, e => by
    simp at e
    subst e
    exact ⟨_, rfl, h⟩
  | _, _, i + 1, _, .cons _ t, e => by
    obtain ⟨v, h1, h2⟩ := RpL.get' (i := i) t (by simpa using e)
    exact ⟨v, by simpa using h1, h2⟩
theorem RpL.app : ∀ {vs ws : List V} {ds es : List PyData}, RpL H vs ds → RpL H ws es → RpL H (vs ++ ws) (ds ++ es)
  | _, _, _, _, .nil, s => s
  | _, _, _, _, .cons h t, s => .cons h (RpL.app t s)
theorem RpL.one {v : V} {d : PyData} (h : Rp H v d) : RpL H [v] [d] := .cons h .nil
end

/-! ### ratios -/
/-- a ratio's attributes -/
def ratF (r : Rat) : List (Str × V) := [("num", .int r.num), ("den", .int (r.den : Int))]
/-- v is a ratio of the value r -/
def RR (K : PySem.W.Frag) (H : Hp) (v : V) (r : Rat) : Prop := ∃ p dx, v = .ref p ∧ H p = some (.ins (He.ga K "Ratio") dx (ratF r))
section
variable {K : PySem.W.Frag} {H H' : Hp}
theorem RR.fz {v : V} {r : Rat} (z : Fz K H H') (h : RR K H v r) : RR K H' v r := let ⟨p, dx, e, h⟩ := h; ⟨p, dx, e, z _ _ (Or.inl rfl) h⟩
theorem RR.same {v : V} {r : Rat} (s : Same H H') (h : RR K H v r) : RR K H' v r := h.fz (Fz.same s)
end
/-- ratios that the program reckons with here are small -/
def Sm (r : Rat) : Prop := r.num.natAbs < 2 ^ 60 ∧ r.den < 2 ^ 60

/-! ### a def that may be called: its promise at a level, how its arguments bind, the defaults that fill up -/
structure Cal (P : Program) (w : World) (K : PySem.W.Frag) (mg : Str → Option Value) (base : Heap) (k : Nat) (d : He.DefD) (ps : List Str) (dv : List V) (sp : Sp) : Prop where
  ex : ∃ fd ds, FnOk P w K mg base CX0 k (He.fAd K d.at_) fd ps sp ∧ Vals dv ds ∧ Binds K fd ps ds
  kp : PySem.W.keepIn K (.ref (He.fAd K d.at_)) = true
section
variable {P : Program} {w : World} {K : PySem.W.Frag} {mg : Str → Option Value} {base : Heap} {k : Nat} {d : He.DefD} {ps : List Str} {dv : List V} {sp : Sp}
/-- without defaults -/
theorem Cal.of (x : ∃ fd, FnX K d fd) (hd : d.dfl = []) (hk : d.kwd = [])
    (h : ∀ (kV doc pm : Value) (an : Option Addr) (cdv ct : Value) (us : List Value), us.length = ps.length → bindArgs (PySem.W.fnOf d.name d.qual d.params d.body d.scope .none kV doc pm an cdv ct) ⟨us, []⟩ = pure (ps.zip us))
    (ok : ∀ fd, FnX K d fd → FnOk P w K mg base CX0 k (He.fAd K d.at_) fd ps sp) : Cal P w K mg base k d ps [] sp := by
  obtain ⟨fd, F⟩ := x
  have F' : FunD K d.name d.qual d.params d.body d.scope [] (d.kws K) (He.fAd K d.at_) fd := by
    have e : d.dvs K = [] := by unfold He.DefD.dvs; rw [hd]; rfl
    have q := F
    unfold FnX at q
    rw [e] at q
    exact q
  exact ⟨⟨fd, [], ok fd F, .nil, F'.bindsN h⟩, F.kp⟩
/-- with defaults: the last of them fill up -/
theorem Cal.ofD (j : Nat) (x : ∃ fd, FnX K d fd) (hd : d.dvs K ≠ []) (hn : (ps.length - ((d.dvs K).length - j)) + ((d.dvs K).length - j) = ps.length)
    (h : ∀ (T : Addr) (kV doc pm : Value) (an : Option Addr) (cdv ct : Value) (us its : List Value), us.length = (ps.length - ((d.dvs K).length - j)) → its.length = (d.dvs K).length →
      ∃ k, bindArgs (PySem.W.fnOf d.name d.qual d.params d.body d.scope (.ref T) kV doc pm an cdv ct) ⟨us, []⟩ = seqItems? (.ref T) >>= k ∧ k (some its.toArray) = pure (ps.zip (us ++ its.drop j)))
    (ok : ∀ fd, FnX K d fd → FnOk P w K mg base CX0 k (He.fAd K d.at_) fd ps sp) : Cal P w K mg base k d ps ((d.dvs K).drop j) sp := by
  obtain ⟨fd, F⟩ := x
  obtain ⟨ds, hv, hb⟩ := F.binds1 (ps := ps) (ps.length - ((d.dvs K).length - j)) j hd hn h
  exact ⟨⟨fd, ds, ok fd F, hv, hb⟩, F.kp⟩
theorem Cal.mono {j : Nat} (c : Cal P w K mg base j d ps dv sp) (h : j ≤ k) : Cal P w K mg base k d ps dv sp := let ⟨⟨fd, ds, a, b, e⟩, kp⟩ := c; ⟨⟨fd, ds, a.mono h, b, e⟩, kp⟩
end
section
variable {X : Cx} {k : Nat} {d : He.DefD} {ps : List Str} {dv : List V} {sp : Sp} {x m : Str} {p pos apos : Pos} {e o : Expr} {es : List Expr} {ta : TE} {t : TA} {C : Addr}
theorem pe_cal (c : Cal X.prog X.w X.K X.mg X.base k d ps dv sp) (hr : Room k X.A) (hg : Gl X x) (hm : X.mg x = some (.ref (He.fAd X.K d.at_)))
    (ha : PA X (e :: es) t) (hdb : (x == ("__debug__" : Str)) = false := by decide) (he : starEach (e :: es) X.env = (false, eval e X.env) :: starEach es X.env := by rfl) (hpl : (backTo pos (starEach es X.env)).any (·.1) = false := by rfl) :
    PE X (.Call (.Name x p) (e :: es) [] pos) (tCall sp dv E0 t) := by
  obtain ⟨⟨fd, ds, F, hd, hb⟩, kp⟩ := c
  exact pe_call F hr hg hm kp hb hd pass0 ha hdb he hpl
theorem pe_cal0 (c : Cal X.prog X.w X.K X.mg X.base k d ps dv sp) (hr : Room k X.A) (hg : Gl X x) (hm : X.mg x = some (.ref (He.fAd X.K d.at_)))
    (hdb : (x == ("__debug__" : Str)) = false := by decide) : PE X (.Call (.Name x p) [] [] pos) (tCall sp dv E0 tNil) := by
  obtain ⟨⟨fd, ds, F, hd, hb⟩, kp⟩ := c
  exact pe_call0 F hr hg hm kp hb hd pass0 hdb
theorem pe_metc {pl : Sem Bool} (c : Cal X.prog X.w X.K X.mg X.base k d ps dv sp) (he : PE X o ta) (cl : Cls X.K C) (hm : Meth X.K C m (He.fAd X.K d.at_)) (hr : Room k X.A) (ha : PA X (e :: es) t)
    (hst : starEach (e :: es) X.env = (false, eval e X.env) :: starEach es X.env := by rfl) (hpl : (backTo pos (starEach es X.env)).any (·.1) = false := by rfl)
    (ht : eval (.Call (.Attribute o m apos) (e :: es) [] pos) X.env = (do
      let ov ← eval o X.env
      standAt apos.atName
      let (f, first) ← holding [ov] (getMethod ov m pl)
      callWith pos f first (backTo pos (starEach (e :: es) X.env)) (backToKw pos (keywordEach [] X.env))) := by rfl) :
    PE X (.Call (.Attribute o m apos) (e :: es) [] pos) (tMeth C m sp dv E0 ta t) := by
  obtain ⟨⟨fd, ds, F, hd, hb⟩, kp⟩ := c
  exact pe_meth he cl hm F hr hb hd pass0 ha hst hpl ht
theorem pe_metc0 {pl : Sem Bool} (c : Cal X.prog X.w X.K X.mg X.base k d ps dv sp) (he : PE X o ta) (cl : Cls X.K C) (hm : Meth X.K C m (He.fAd X.K d.at_)) (hr : Room k X.A)
    (ht : eval (.Call (.Attribute o m apos) [] [] pos) X.env = (do
      let ov ← eval o X.env
      standAt apos.atName
      let (f, first) ← holding [ov] (getMethod ov m pl)
      callWith pos f first (backTo pos (starEach [] X.env)) (backToKw pos (keywordEach [] X.env))) := by rfl) :
    PE X (.Call (.Attribute o m apos) [] [] pos) (tMeth C m sp dv E0 ta tNil) := by
  obtain ⟨⟨fd, ds, F, hd, hb⟩, kp⟩ := c
  exact pe_meth0 he cl hm F hr hb hd pass0 ht
theorem pe_mkc (c : Cal X.prog X.w X.K X.mg X.base k d ps dv sp) (M : Mk X.K C (He.fAd X.K d.at_)) (hr : Room (k + 1) X.A) (hg : Gl X x) (hm : X.mg x = some (.ref C))
    (ha : PA X (e :: es) t) (hdb : (x == ("__debug__" : Str)) = false := by decide) (he : starEach (e :: es) X.env = (false, eval e X.env) :: starEach es X.env := by rfl) (hpl : (backTo pos (starEach es X.env)).any (·.1) = false := by rfl) :
    PE X (.Call (.Name x p) (e :: es) [] pos) (tMake C sp dv E0 t) := by
  obtain ⟨⟨fd, ds, F, hd, hb⟩, kp⟩ := c
  exact pe_make M F hr hg hm hb hd pass0 ha hdb he hpl
end

/-! ### readings, a step at a time -/
/-- what a field asks -/
def rFld (K : PySem.W.Frag) (f : Str) : V → Hp → VK → Prop := fun x H1 Q => ∃ a C dx fs v, x = .ref a ∧ H1 a = some (.ins C dx fs) ∧ Cls K C ∧ NoAttr K C f ∧ fs.lookup f = some v ∧ Q v H1
def rTupF : List V → Hp → VK → Prop := fun xs H1 Q => xs.length ≤ sizeLine ∧ ∀ p H', H1 p = none → Same H1 H' → TU H' p xs → Q (.ref p) H'
def tTupF (t : TA) : TE := fun σ H Q => t σ H fun xs H1 => rTupF xs H1 Q
theorem pe_tupF {X : Cx} {es : List Expr} {t : TA} {pos : Pos} {x1} (h : PA X es t) : PE X (.Tuple es x1 pos) (tTupF t) := by
  refine ⟨fun pins s σ H Q I hq => ?_⟩
  refine wpAny_Tuple_spliced (thn (h.run pos pins s σ H _ I hq) fun us s1 ⟨xs, H1, I1, r, z, q⟩ => ⟨by rw [← r.length]; exact z, ?_⟩)
  have hf : H1 s1.heap.objs.size = none := I1.hok.fresh (Nat.le_refl _)
  refine ⟨.ref s1.heap.objs.size, upd H1 s1.heap.objs.size (.frz { cls := .type "tuple", data := .seq us.toArray } (.tup xs)), I1.laid (t' := s1.toks) (fun b u e => Heap.get?_push_of_some _ e) (Nat.le_refl _) ?_, rfl, q _ _ hf (Same.new hf) ⟨_, rfl, upd_same⟩⟩
  exact ⟨Heap.get?_push_size _ rfl, z, us, r, ⟨_, Heap.get?_push_size _ rfl, rfl, _, rfl⟩⟩
def rLst : List V → Hp → VK → Prop := fun xs H1 Q => xs.length ≤ sizeLine ∧ ∀ p, H1 p = none → Q (.ref p) (upd H1 p (.lst xs))
def rMake (C : Addr) (sp : Sp) : List V → Hp → VK → Prop := fun vs H1 Q => ∀ x dx, H1 x = none → H1 dx = none → dx ≠ x → sp (.ref x :: vs) (upd (upd H1 dx (.own x)) x (.ins C dx [])) (fun v H2 => v = .non ∧ Q (.ref x) H2) E0
def rMeth (C : Addr) (m : Str) (x : V) (H1 : Hp) (k : Prop) : Prop := ∃ a dx fs, x = .ref a ∧ H1 a = some (.ins C dx fs) ∧ fs.lookup m = none ∧ k
/-- a field of an instance of the class at C; its store -/
def rFldC (C : Addr) (f : Str) : V → Hp → VK → Prop := fun x H1 Q => ∃ a dx fs v, x = .ref a ∧ H1 a = some (.ins C dx fs) ∧ fs.lookup f = some v ∧ Q v H1
def rSetC (C : Addr) (f : Str) (y : V) : V → Hp → (Hp → Prop) → Prop := fun x H2 k => ∃ a dx fs, x = .ref a ∧ H2 a = some (.ins C dx fs) ∧ fs.length < 1000 ∧ k (upd H2 a (.ins C dx (putF f y fs)))
def sFldC (C : Addr) (ta tv : TE) (f : Str) : TS := fun D σ H => tv σ H fun y H1 => ta σ H1 fun x H2 => rSetC C f y x H2 fun H3 => D.nx σ H3
section
variable {X : Cx} {o e value : Expr} {f : Str} {pos pos' : Pos} {ta tv : TE} {C : Addr}
theorem pe_fldc (c : Cls X.K C) (n : NoAttr X.K C f) (he : PE X e ta) (hb : attributeBase e f X.env (eval e X.env) = eval e X.env := by rfl) : PE X (.Attribute e f pos) (tUn (rFldC C f) ta) := by
  refine ⟨fun pins s σ H Q I h => ?_⟩
  refine attr_of hb (thn (he.run pins s σ H _ I h) fun u s1 ⟨x, H1, I1, rx, a, dx, fs, v, ex, ea, l, q⟩ => ?_)
  subst ex
  obtain rfl : u = Value.ref a := rx
  exact getattr_ok I1 ea c n l fun u' s2 I2 ru => ⟨v, H1, I2, ru, q⟩
theorem ps_fldc (c : Cls X.K C) (n : NoAttr X.K C f) (ha : PE X o ta) (hv : PE X value tv) (hs : swapsWith value (some (.Attribute o f pos')) pos.line X.env = pure false := by rfl) : PS X (.Assign [.Attribute o f pos'] value pos) (sFldC C ta tv f) := by
  refine ⟨fun pins s σ H D I h => ?_⟩
  refine plainObj_wpAny_Assign_Attribute (thn (hv.run pins s σ H _ I h) fun u s1 ⟨y, H1, I1, ry, q⟩ => thn (ha.run pins s1 σ H1 _ I1 q) fun ov s2 ⟨x, H2, I2, rx, a, dx, fs, ex, ea, l, q2⟩ => ?_) hs
  subst ex
  obtain rfl : ov = Value.ref a := rx
  exact setattr_ok I2 ea c n l ry fun s3 I3 => ⟨σ, _, I3, q2⟩
end
section
variable {K : PySem.W.Frag} {σ : L2.St} {H : Hp} {Q : VK} {D : Ends} {r : R2} {ta tb te : TE} {t u : TS} {tl : TA} {c c2 : TT} {g : TG} {i : Nat} {v : V} {f : Str}
theorem x_var (h : σ[i]? = some (some v)) (q : Q v H) : tVar i σ H Q := ⟨v, h, q⟩
theorem x_c (q : Q v H) : tC v σ H Q := q
theorem x_op (q : ta σ H fun x H1 => tb σ H1 fun y H2 => r x y H2 Q) : tOp r ta tb σ H Q := q
theorem x_un {r : V → Hp → VK → Prop} (q : ta σ H fun x H1 => r x H1 Q) : tUn r ta σ H Q := q
theorem x_fld (q : ta σ H fun x H1 => rFld K f x H1 Q) : tFld K ta f σ H Q := q
theorem x_fldv {a C dx : Addr} {fs : List (Str × V)} (h : H a = some (.ins C dx fs)) (cl : Cls K C) (n : NoAttr K C f) (l : fs.lookup f = some v) (q : Q v H) : rFld K f (.ref a) H Q := ⟨a, C, dx, fs, v, rfl, h, cl, n, l, q⟩
theorem x_tup (q : tl σ H fun xs H1 => rTupF xs H1 Q) : tTupF tl σ H Q := q
theorem x_lst (q : tl σ H fun xs H1 => rLst xs H1 Q) : tLst tl σ H Q := q
theorem x_rtup {xs : List V} (l : xs.length ≤ 1000) (q : ∀ p H', H p = none → Same H H' → TU H' p xs → Q (.ref p) H') : rTupF xs H Q := ⟨Nat.le_of_lt (small1000 l), q⟩
theorem x_rlst {xs : List V} (l : xs.length ≤ 1000) (q : ∀ p H', H p = none → Same H H' → H' p = some (.lst xs) → Q (.ref p) H') : rLst xs H Q := ⟨Nat.le_of_lt (small1000 l), fun p hp => q p _ hp (Same.new hp) upd_same⟩
theorem x_nil {Q : List V → Hp → Prop} (q : Q [] H) : tNil σ H Q := q
theorem x_cons {Q : List V → Hp → Prop} (q : ta σ H fun x H1 => tl σ H1 fun xs H2 => Q (x :: xs) H2) : tCons ta tl σ H Q := q
theorem x_call {sp : Sp} {dv : List V} (q : tl σ H fun vs H1 => sp (vs ++ dv) H1 Q E0) : tCall sp dv E0 tl σ H Q := q
theorem x_meth {C : Addr} {m : Str} {sp : Sp} {dv : List V} (q : ta σ H fun x H1 => rMeth C m x H1 (tl σ H1 fun vs H2 => sp (x :: (vs ++ dv)) H2 Q E0)) : tMeth C m sp dv E0 ta tl σ H Q := q
theorem x_methv {C a dx : Addr} {m : Str} {fs : List (Str × V)} {k : Prop} (h : H a = some (.ins C dx fs)) (l : fs.lookup m = none) (q : k) : rMeth C m (.ref a) H k := ⟨a, dx, fs, rfl, h, l, q⟩
theorem x_make {C : Addr} {sp : Sp} {dv : List V} (q : tl σ H fun vs H1 => rMake C sp (vs ++ dv) H1 Q) : tMake C sp dv E0 tl σ H Q := q
theorem x_cb {r : List V → Hp → VK → Prop} (q : tl σ H fun vs H1 => r vs H1 Q) : tCB r tl σ H Q := q
theorem x_bm {T : String} {r : V → List V → Hp → VK → Prop} (q : ta σ H fun x H1 => tyV K T x H1 ∧ tl σ H1 fun xs H2 => r x xs H2 Q) : tBM K T r ta tl σ H Q := q
theorem x_bm0 {T : String} {r : V → List V → Hp → VK → Prop} (q : ta σ H fun x H1 => tyV K T x H1 ∧ r x [] H1 Q) : tBM0 K T r ta σ H Q := q
/-- tests -/
theorem x_test {Q : Bool → Hp → Prop} (q : ta σ H fun x H' => ∃ k, x = .bl k ∧ Q k H') : tTest ta σ H Q := q
theorem x_B {Q : Bool → Hp → Prop} (q : ta σ H fun x H' => ∃ k, x = .bl k ∧ Q k H') : tB ta σ H Q := q
theorem x_and {Q : Bool → Hp → Prop} (q : c σ H fun b H1 => if b = true then c2 σ H1 Q else Q false H1) : tAnd c c2 σ H Q := q
theorem x_or {Q : Bool → Hp → Prop} (q : c σ H fun b H1 => if b = true then Q true H1 else c2 σ H1 Q) : tOr c c2 σ H Q := q
theorem x_not {Q : Bool → Hp → Prop} (q : c σ H fun b H1 => Q (!b) H1) : tNot c σ H Q := q
theorem x_andV (q : ta σ H fun x H1 => ∃ c, x = .bl c ∧ if c = true then tb σ H1 Q else Q (.bl false) H1) : tAndV ta tb σ H Q := q
theorem x_orV (q : ta σ H fun x H1 => ∃ c, x = .bl c ∧ if c = true then Q (.bl true) H1 else tb σ H1 Q) : tOrV ta tb σ H Q := q
theorem x_notV (q : ta σ H fun x H1 => ∃ c, x = .bl c ∧ Q (.bl (!c)) H1) : tNotV ta σ H Q := q
theorem x_bl {k : Bool} {Q : Bool → Prop} (q : Q k) : ∃ j, V.bl k = .bl j ∧ Q j := ⟨k, rfl, q⟩
theorem x_if (q : c σ H fun b H1 => if b = true then ta σ H1 Q else tb σ H1 Q) : tIf c ta tb σ H Q := q
theorem ite_t {b : Bool} {A B : Prop} (h : b = true) (q : A) : if b = true then A else B := by rw [if_pos h]; exact q
theorem ite_f {b : Bool} {A B : Prop} (h : b = false) (q : B) : if b = true then A else B := by rw [h]; exact q
theorem ite_c {b : Bool} {A B : Prop} (h1 : b = true → A) (h2 : b = false → B) : if b = true then A else B := by
  cases b with
  | true => exact h1 rfl
  | false => exact h2 rfl
/-- statements -/
theorem x_seq (q : t { D with nx := u D } σ H) : tSeq t u D σ H := q
theorem x_next (q : D.nx σ H) : tNext D σ H := q
theorem x_cont (q : D.ct σ H) : tCont D σ H := q
theorem x_break (q : D.bk σ H) : tBreak D σ H := q
theorem x_drop (q : te σ H fun _ H1 => D.nx σ H1) : tDrop te D σ H := q
theorem x_ret (q : te σ H D.rt) : tRet te D σ H := q
theorem x_retN (q : D.rt .non H) : tRetN D σ H := q
theorem x_ifS (q : c σ H fun b H1 => if b = true then t D σ H1 else u D σ H1) : tIfS c t u D σ H := q
theorem x_asg (q : te σ H fun x H1 => g x σ H1 D.nx) : tAsg te g D σ H := q
theorem x_name {Q : L2.St → Hp → Prop} (q : Q (σ.set i (some v)) H) : gName i v σ H Q := q
theorem x_par {i j : Nat} {v w : V} (q : tl σ H fun vs H1 => vs = [v, w] ∧ D.nx ((σ.set i (some v)).set j (some w)) H1) (mono : ∀ σ H Q Q', (∀ b H1, Q b H1 → Q' b H1) → tl σ H Q → tl σ H Q') : tPar i j tl D σ H :=
  mono _ _ _ _ (fun b H1 ⟨e, q⟩ => ⟨v, w, e, q⟩) q
/-- o.f = e -/
def rSetF (K : PySem.W.Frag) (f : Str) (y : V) : V → Hp → (Hp → Prop) → Prop := fun x H2 k => ∃ a C dx fs, x = .ref a ∧ H2 a = some (.ins C dx fs) ∧ Cls K C ∧ NoAttr K C f ∧ fs.length < 1000 ∧ k (upd H2 a (.ins C dx (putF f y fs)))
theorem x_sfld (q : tb σ H fun y H1 => ta σ H1 fun x H2 => rSetF K f y x H2 fun H3 => D.nx σ H3) : sFld K ta tb f D σ H := q
theorem x_sfldv {a C dx : Addr} {fs : List (Str × V)} {y : V} {k : Hp → Prop} (h : H a = some (.ins C dx fs)) (cl : Cls K C) (n : NoAttr K C f) (l : fs.length ≤ 50) (q : ∀ H', But a H H' → H' a = some (.ins C dx (putF f y fs)) → k H') : rSetF K f y (.ref a) H k :=
  ⟨a, C, dx, fs, rfl, h, cl, n, by omega, q _ But.upd upd_same⟩
theorem x_fldc {C a dx : Addr} {fs : List (Str × V)} (h : H a = some (.ins C dx fs)) (l : fs.lookup f = some v) (q : Q v H) : rFldC C f (.ref a) H Q := ⟨a, dx, fs, v, rfl, h, l, q⟩
theorem x_sfldc {C : Addr} (q : tb σ H fun y H1 => ta σ H1 fun x H2 => rSetC C f y x H2 fun H3 => D.nx σ H3) : sFldC C ta tb f D σ H := q
theorem x_setc {a C dx : Addr} {fs : List (Str × V)} {y : V} {k : Hp → Prop} (h : H a = some (.ins C dx fs)) (l : fs.length ≤ 50) (q : ∀ H', But a H H' → H' a = some (.ins C dx (putF f y fs)) → k H') : rSetC C f y (.ref a) H k :=
  ⟨a, dx, fs, rfl, h, by omega, q _ But.upd upd_same⟩
/-- subscripts -/
def rIxU : R2 := fun x y H Q => ∃ p xs i v, x = .ref p ∧ y = .int i ∧ TU H p xs ∧ atI xs i = some v ∧ Q v H
def rIxF : R2 := fun x y H Q => ∃ p xs i v, x = .ref p ∧ y = .int i ∧ H p = some (.lst xs) ∧ atI xs i = some v ∧ Q v H
theorem y_ixT {p : Addr} {xs : List V} {i : Int} (h : TU H p xs) (a : atI xs i = some v) (q : Q v H) : rIxU (.ref p) (.int i) H Q := ⟨p, xs, i, v, rfl, rfl, h, a, q⟩
theorem y_ixL {p : Addr} {xs : List V} {i : Int} (h : H p = some (.lst xs)) (a : atI xs i = some v) (q : Q v H) : rIxF (.ref p) (.int i) H Q := ⟨p, xs, i, v, rfl, rfl, h, a, q⟩
theorem y_ix {x : V} {ds : List PyData} {d : PyData} (j : Int) (i : Nat) (h : Rp H x (.tuple ds)) (e : j = (i : Int)) (a : ds[i]? = some d) (q : ∀ v, Rp H v d → Q v H) : rIxU x (.int j) H Q := by
  obtain ⟨p, xs, rfl, hp, hx⟩ := h.t_
  obtain ⟨v, hv, hr⟩ := hx.get a
  exact ⟨p, xs, j, v, rfl, rfl, hp, e ▸ atI_nat hv, q v hr⟩
theorem y_ixS {x : V} {ds : List PyData} {z : Str} {j : Int} {i : Nat} (h : Rp H x (.tuple ds)) (e : j = (i : Int)) (a : ds[i]? = some (.str z)) (q : Q (.str z) H) : rIxU x (.int j) H Q := y_ix j i h e a fun v hv => hv.s_ ▸ q
theorem y_ixI {x : V} {ds : List PyData} {z : Int} {j : Int} {i : Nat} (h : Rp H x (.tuple ds)) (e : j = (i : Int)) (a : ds[i]? = some (.int z)) (q : Q (.int z) H) : rIxU x (.int j) H Q := y_ix j i h e a fun v hv => hv.i_ ▸ q
theorem y_ixB {x : V} {ds : List PyData} {z : Bool} {j : Int} {i : Nat} (h : Rp H x (.tuple ds)) (e : j = (i : Int)) (a : ds[i]? = some (.bool z)) (q : Q (.bl z) H) : rIxU x (.int j) H Q := y_ix j i h e a fun v hv => hv.b_ ▸ q
theorem y_ixR {x : V} {ds es : List PyData} {j : Int} {i : Nat} (h : Rp H x (.tuple ds)) (e : j = (i : Int)) (a : ds[i]? = some (.tuple es)) (q : ∀ v, Rp H v (.tuple es) → Q v H) : rIxU x (.int j) H Q := y_ix j i h e a q
theorem y_num {x : V} {r : Rat} (h : RR K H x r) (q : Q (.int r.num) H) : rFldC (He.ga K "Ratio") "num" x H Q := by
  obtain ⟨p, dx, rfl, h⟩ := h
  exact ⟨p, dx, _, _, rfl, h, rfl, q⟩
theorem y_den {x : V} {r : Rat} (h : RR K H x r) (q : Q (.int (r.den : Int)) H) : rFldC (He.ga K "Ratio") "den" x H Q := by
  obtain ⟨p, dx, rfl, h⟩ := h
  refine ⟨p, dx, _, _, rfl, h, ?_, q⟩
  rfl
/-- unpacking -/
theorem x_gtup {a : Addr} {xs : List V} {n : Nat} {t : TGs} {Q : L2.St → Hp → Prop} (h : TU H a xs) (l : xs.length = n) (q : t xs σ H Q) : gTup K n t (.ref a) σ H Q := ⟨a, xs, rfl, h.sq, l, q⟩
theorem x_gtup' {a : Addr} {xs : List V} {n : Nat} {t : TGs} {Q : L2.St → Hp → Prop} (h : H a = some (.tup xs)) (l : xs.length = n) (q : t xs σ H Q) : gTup K n t (.ref a) σ H Q := ⟨a, xs, rfl, SqT.of h, l, q⟩
theorem x_gtupR {x : V} {ds : List PyData} {n : Nat} {t : TGs} {Q : L2.St → Hp → Prop} (h : Rp H x (.tuple ds)) (l : ds.length = n) (q : ∀ xs, RpL H xs ds → t xs σ H Q) : gTup K n t x σ H Q := by
  obtain ⟨a, xs, rfl, hp, hx⟩ := h.t_
  exact ⟨a, xs, rfl, hp.sq, hx.len.trans l, q xs hx⟩
theorem x_gcons {v : V} {r : List V} {t : TG} {u : TGs} {Q : L2.St → Hp → Prop} (q : t v σ H fun σ' H' => u r σ' H' Q) : gCons t u (v :: r) σ H Q := ⟨v, r, rfl, q⟩
theorem x_gnil {Q : L2.St → Hp → Prop} (q : Q σ H) : gNil [] σ H Q := ⟨rfl, q⟩
/-- tuple(..) of a list, of a tuple -/
def rTupleF : List V → Hp → VK → Prop := fun xs H Q => ∃ p ys, xs = [.ref p] ∧ ((H p = some (.lst ys) ∧ ∀ l H', H l = none → Same H H' → TU H' l ys → Q (.ref l) H') ∨ (TU H p ys ∧ Q (.ref p) H))
theorem y_tupleL {p : Addr} {ys : List V} (h : H p = some (.lst ys)) (q : ∀ l H', H l = none → Same H H' → TU H' l ys → Q (.ref l) H') : rTupleF [.ref p] H Q := ⟨p, ys, rfl, .inl ⟨h, q⟩⟩
theorem y_tupleT {p : Addr} {ys : List V} (h : TU H p ys) (q : Q (.ref p) H) : rTupleF [.ref p] H Q := ⟨p, ys, rfl, .inr ⟨h, q⟩⟩
theorem y_tupleR {x : V} {ds : List PyData} (h : Rp H x (.tuple ds)) (q : Q x H) : rTupleF [x] H Q := by
  obtain ⟨a, xs, rfl, hp, _⟩ := h.t_
  exact ⟨a, xs, rfl, .inr ⟨hp, q⟩⟩
/-- numbers -/
theorem y_I0 {f : Int → Int → V} {i j : Int} (q : Q (f i j) H) : rI0 f (.int i) (.int j) H Q := ⟨i, j, rfl, rfl, q⟩
theorem y_I {C : Int → Int → Prop} {f : Int → Int → V} {i j : Int} (c : C i j) (q : Q (f i j) H) : rI C f (.int i) (.int j) H Q := ⟨i, j, rfl, rfl, c, q⟩
theorem y_eq {x y : V} (s : scal x y = true) (q : Q (.bl (decide (x = y))) H) : rEq x y H Q := ⟨s, q⟩
theorem y_ne {x y : V} (s : scal x y = true) (q : Q (.bl (!decide (x = y))) H) : rNe x y H Q := ⟨s, q⟩
end
section
variable {X : Cx}
theorem ix_tupF : IxR X rIxU := fun value slice pins s σ H x y v u Q I rx ry ⟨p, xs, i, z, e1, e2, h, a, q⟩ hs => ix_tup value slice pins s σ H x y v u Q I rx ry ⟨p, xs, i, z, e1, e2, h.sq, a, q⟩ hs
theorem ix_listF : IxR X rIxF := fun value slice pins s σ H x y v u Q I rx ry ⟨p, xs, i, z, e1, e2, h, a, q⟩ hs => ix_list value slice pins s σ H x y v u Q I rx ry ⟨p, xs, i, z, e1, e2, SqL.of h, a, q⟩ hs
/-- a built-in's method: its receiver a list or a dict of the walk's own -/
def tyF (T : String) (x : V) (H : Hp) : Prop := ∃ p, x = .ref p ∧ ((T = "list" ∧ ∃ xs, H p = some (.lst xs)) ∨ (T = "dict" ∧ ∃ kvs, H p = some (.dK kvs)))
theorem tyF_is {K : PySem.W.Frag} {T : String} {x : V} {H : Hp} (h : tyF T x H) : tyV K T x H := by
  obtain ⟨p, rfl, h⟩ := h
  rcases h with ⟨rfl, xs, h⟩ | ⟨rfl, kvs, h⟩
  · exact .inl ⟨rfl, xs, SqL.of h⟩
  · exact .inr (.inr (.inl ⟨rfl, .inl ⟨kvs, h⟩⟩))
def tBMF0 (T : String) (r : V → List V → Hp → VK → Prop) (to : TE) : TE := fun σ H Q => to σ H fun x H1 => tyF T x H1 ∧ r x [] H1 Q
def tBMF (T : String) (r : V → List V → Hp → VK → Prop) (to : TE) (t : TA) : TE := fun σ H Q => to σ H fun x H1 => tyF T x H1 ∧ t σ H1 fun xs H2 => r x xs H2 Q
theorem pe_bmF0 {o : Expr} {to : TE} {name : Str} {apos cpos : Pos} {T id : String} {r : V → List V → Hp → VK → Prop} (pa : PlainAttrs T) (slot : Slot T name id) (hty : typeOf (.builtin id) = pure (.type "method_descriptor")) (hm : MtR X id r) (ho : PE X o to)
    (hbase : attributeBase o name X.env (eval o X.env) = eval o X.env := by rfl) (hline : (apos.endLine == cpos.line) = true := by rfl) : PE X (.Call (.Attribute o name apos) [] [] cpos) (tBMF0 T r to) := by
  refine ⟨fun pins s σ H Q I h => ?_⟩
  refine wpAny_Call_method0_late hbase hline (thn (ho.run pins s σ H _ I h) fun v s1 ⟨x, H1, I1, r1, ty, q1⟩ => ?_)
  obtain ⟨h1, h2⟩ := tyV_is I1 r1 (tyF_is ty)
  exact ⟨T, id, pa, slot, hty, h1, h2, Calls.callWith_builtin rfl (PySem.evalArgs_none (hm pins s1 σ H1 x [] v [] Q I1 r1 .nil q1))⟩
theorem pe_bmF {o e : Expr} {es : List Expr} {to : TE} {t : TA} {name : Str} {apos cpos : Pos} {T id : String} {r : V → List V → Hp → VK → Prop} (pa : PlainAttrs T) (slot : Slot T name id) (hty : typeOf (.builtin id) = pure (.type "method_descriptor")) (hm : MtR X id r) (ho : PE X o to) (ha : PA X (e :: es) t)
    (hbase : attributeBase o name X.env (eval o X.env) = eval o X.env := by rfl)
    (hfew : ((backTo cpos (starEach (e :: es) X.env)).all (fun x => !x.1) && (backToKw cpos (keywordEach [] X.env)).all (fun x => x.1.isSome)
      && decide ((e :: es).length + ([] : List Keyword).length + (if ([] : List Keyword).isEmpty then 0 else 1) < 30)) = true := by rfl)
    (hline : (apos.endLine == cpos.line) = true := by rfl) (hs : starEach (e :: es) X.env = (false, eval e X.env) :: starEach es X.env := by rfl) (hplain : (backTo cpos (starEach es X.env)).any (·.1) = false := by rfl) :
    PE X (.Call (.Attribute o name apos) (e :: es) [] cpos) (tBMF T r to t) := by
  refine ⟨fun pins s σ H Q I h => ?_⟩
  refine wpAny_Call_method_late hbase hfew hline rfl (thn (ho.run pins s σ H _ I h) fun v s1 ⟨x, H1, I1, r1, ty, q1⟩ => ?_)
  obtain ⟨h1, h2⟩ := tyV_is I1 r1 (tyF_is ty)
  refine ⟨T, id, pa, slot, hty, h1, h2, ?_⟩
  have hA := ha.run cpos pins s1 σ H1 _ I1 q1
  rw [hs] at hA ⊢
  refine Calls.callWith_builtin (by show (false || (backTo cpos (starEach es X.env)).any (·.1)) = false; rw [hplain] <;> rfl) (Calls.evalArgs_plain ?_)
  exact thn hA fun us s2 ⟨vs, H2, I2, r2, q2⟩ => hm pins s2 σ H2 x vs v us Q I2 r1 r2 q2
theorem x_bmF0 {σ : L2.St} {H : Hp} {Q : VK} {T : String} {r : V → List V → Hp → VK → Prop} {to : TE} (q : to σ H fun x H1 => tyF T x H1 ∧ r x [] H1 Q) : tBMF0 T r to σ H Q := q
theorem x_bmF {σ : L2.St} {H : Hp} {Q : VK} {T : String} {r : V → List V → Hp → VK → Prop} {to : TE} {t : TA} (q : to σ H fun x H1 => tyF T x H1 ∧ t σ H1 fun xs H2 => r x xs H2 Q) : tBMF T r to t σ H Q := q
theorem y_tyL {H : Hp} {p : Addr} {xs : List V} {A : Prop} (h : H p = some (.lst xs)) (q : A) : tyF "list" (.ref p) H ∧ A := ⟨⟨p, rfl, .inl ⟨rfl, xs, h⟩⟩, q⟩
theorem y_tyD {H : Hp} {p : Addr} {kvs : List (Key × V)} {A : Prop} (h : H p = some (.dK kvs)) (q : A) : tyF "dict" (.ref p) H ∧ A := ⟨⟨p, rfl, .inr ⟨rfl, kvs, h⟩⟩, q⟩
theorem y_append {H : Hp} {Q : VK} {l : Addr} {xs : List V} {v : V} (h : H l = some (.lst xs)) (len : xs.length ≤ 1000) (q : ∀ H', But l H H' → H' l = some (.lst (xs ++ [v])) → Q .non H') : rAppend (.ref l) [v] H Q := ⟨l, xs, v, rfl, rfl, h, small1000 len, q _ But.upd upd_same⟩
theorem y_pop {H : Hp} {Q : VK} {l : Addr} {xs : List V} {v : V} (h : H l = some (.lst xs)) (e : xs[xs.length - 1]? = some v) (q : ∀ H', But l H H' → H' l = some (.lst xs.dropLast) → Q v H') : rPop (.ref l) [] H Q := ⟨l, xs, v, rfl, rfl, h, e, q _ But.upd upd_same⟩
theorem y_extend {H : Hp} {Q : VK} {l b : Addr} {xs ys : List V} (h : H l = some (.lst xs)) (hb : H b = some (.lst ys)) (len : xs.length + ys.length ≤ 1000) (q : ∀ H', But l H H' → H' l = some (.lst (xs ++ ys)) → Q .non H') : rExtend (.ref l) [.ref b] H Q :=
  ⟨l, b, xs, ys, rfl, rfl, h, hb, Nat.le_of_lt (small1000 len), q _ But.upd upd_same⟩
/-- len of a list, of a tuple -/
def rLenF : List V → Hp → VK → Prop := fun xs H Q => ∃ p ys, xs = [.ref p] ∧ (H p = some (.lst ys) ∨ TU H p ys) ∧ Q (.int ys.length) H
theorem call_lenF : CallR X (.builtin "len") rLenF := fun pins s σ H xs us Q I r ⟨p, ys, e, h, q⟩ => call_len_seq pins s σ H xs us Q I r ⟨p, ys, e, h.elim (fun h => .inl (SqL.of h)) (fun h => .inr h.sq), q⟩
theorem y_lenL {H : Hp} {Q : VK} {p : Addr} {ys : List V} (h : H p = some (.lst ys)) (q : Q (.int ys.length) H) : rLenF [.ref p] H Q := ⟨p, ys, rfl, .inl h, q⟩
theorem y_lenR {H : Hp} {Q : VK} {x : V} {ds : List PyData} (h : Rp H x (.tuple ds)) (q : Q (.int ds.length) H) : rLenF [x] H Q := by
  obtain ⟨a, xs, rfl, hp, hx⟩ := h.t_
  exact ⟨a, xs, rfl, .inr hp, by rw [hx.len]; exact q⟩
theorem call_tupleF : CallR X (.type "tuple") rTupleF := by
  intro pins s σ H xs us Q I r h
  obtain ⟨p, ys, rfl, h⟩ := h
  obtain ⟨u, rfl, rx⟩ := vals1 r
  cases rx
  rcases h with ⟨hq, q⟩ | ⟨hq, q⟩
  · obtain ⟨its, r', pl, hz⟩ := I.list (SqL.of hq)
    have hlen := r'.length
    refine call_tuple_list pl.isList (fun h' kp => ?_) (by simp only [List.size_toArray] <;> omega)
    have I1 : Inv X pins σ H { s with heap := h' } := I.kept (t' := s.toks) kp
    have I2 : Inv X pins σ (upd H h'.objs.size (.frz { cls := .type "tuple", data := .seq its.toArray } (.tup ys))) { s with heap := h'.push { cls := .type "tuple", data := .seq its.toArray } } :=
      I1.laid (t' := s.toks) (fun b o e => Heap.get?_push_of_some _ e) (Nat.le_refl _) ⟨Heap.get?_push_size _ rfl, hz, its, r', PyProof.Rows.IsTup.new _ _⟩
    have hf := I1.hok.fresh (Nat.le_refl _)
    exact ⟨.ref h'.objs.size, _, I2, rfl, q _ _ hf (Same.new hf) ⟨_, rfl, upd_same⟩⟩
  · obtain ⟨its, r', pl, hz⟩ := I.tuple (hq.sq (K := X.K))
    exact call_tuple_same pl ⟨.ref p, H, I, rfl, q⟩
end
end Tn
set_option Elab.async false
set_option linter.all false
set_option maxRecDepth 100000
set_option maxHeartbeats 4000000
namespace Tn
open PySem PySem.Spec L2
local macro_rules | `(tactic| walk_at "tz") => `(tactic| first
  | ((refine' Tz.same ?s); (case s => with_reducible assumption))
  | ((refine' Tz.but ?b ?h ?n); (case b => with_reducible assumption); (case h => walk_at "look"); (case n => (intro o v z; cases z))))
local macro_rules | `(tactic| walk_at "fz") => `(tactic| first
  | ((refine' Fz.same ?s); (case s => with_reducible assumption))
  | ((refine' Fz.but ?b ?h ?n); (case b => with_reducible assumption); (case h => walk_at "look"); (case n => first | exact nf_lst | exact nf_dK | exact nf_ext | assumption)))
local macro_rules | `(tactic| walk_at "look") => `(tactic| first
  | with_reducible assumption
  | ((with_reducible refine' Same.app ?s ?m); (case s => with_reducible assumption); (case m => walk_at "look"))
  | ((with_reducible refine' RR.fz ?z ?m); (case z => walk_at "fz"); (case m => walk_at "look"))
  | ((with_reducible refine' Rp.tz ?z ?m); (case z => walk_at "tz"); (case m => walk_at "look"))
  | ((with_reducible refine' TU.tz ?z ?m); (case z => walk_at "tz"); (case m => walk_at "look"))
  | ((with_reducible refine' RpL.tz ?z ?m); (case z => walk_at "tz"); (case m => walk_at "look"))
  | ((with_reducible refine' GM.fz ?z ?m); (case z => walk_at "fz"); (case m => walk_at "look"))
  | ((with_reducible refine' But.app' ?b ?n ?m); (case b => with_reducible assumption); (case n => first | assumption | (refine Ne.symm ?_; assumption)); (case m => walk_at "look"))
  | ((with_reducible refine' But.app ?b ?l ?d ?m); (case b => with_reducible assumption); (case m => walk_at "look"); (case l => walk_at "look"); (case d => (intro z; cases z))))
local macro_rules | `(tactic| walk_at "rp") => `(tactic| first
  | (with_reducible assumption)
  | walk_at "look"
  | exact Rp.bl _ | exact Rp.int _ | exact Rp.str _ | exact Rp.non
  | ((refine' Rp.tup ?h ?l); (case h => walk_at "look"); (case l => walk_at "rpl")))
local macro_rules | `(tactic| walk_at "rpl") => `(tactic| first
  | exact RpL.nil
  | ((refine' RpL.cons ?h ?l); (case h => walk_at "rp"); (case l => walk_at "rpl")))
local macro_rules | `(tactic| walk_at "vc") => `(tactic| repeat (first
  | with_reducible refine' x_seq ?_
  | with_reducible refine' x_ifS ?_
  | with_reducible refine' x_asg ?_
  | with_reducible refine' x_drop ?_
  | with_reducible refine' x_ret ?_
  | with_reducible refine' x_name ?_
  | with_reducible refine' x_c ?_
  | ((with_reducible refine' x_var ?h ?_); (case h => rfl))
  | with_reducible refine' x_op ?_
  | with_reducible refine' x_un ?_
  | with_reducible refine' x_tup ?_
  | with_reducible refine' x_lst ?_
  | ((with_reducible refine' x_gtup ?h ?l ?_); (case h => walk_at "look"); (case l => rfl))
  | ((with_reducible refine' x_gtup' ?h ?l ?_); (case h => walk_at "look"); (case l => rfl))
  | with_reducible refine' x_gcons ?_
  | with_reducible refine' x_gnil ?_
  | with_reducible refine' x_nil ?_
  | with_reducible refine' x_cons ?_
  | with_reducible refine' x_call ?_
  | with_reducible refine' x_meth ?_
  | ((with_reducible refine' x_methv ?h ?l ?_); (case h => walk_at "look"); (case l => first | rfl | decide +kernel))
  | with_reducible refine' x_make ?_
  | with_reducible refine' x_cb ?_
  | with_reducible refine' x_test ?_
  | with_reducible refine' x_B ?_
  | with_reducible refine' x_and ?_
  | with_reducible refine' x_or ?_
  | with_reducible refine' x_not ?_
  | with_reducible refine' x_if ?_
  | with_reducible refine' x_andV ?_
  | with_reducible refine' x_orV ?_
  | with_reducible refine' x_notV ?_
  | with_reducible refine' x_next ?_
  | with_reducible refine' x_gfldc ?_
  | with_reducible refine' x_bmF ?_
  | with_reducible refine' x_bmF0 ?_
  | ((with_reducible refine' y_tyL ?h ?_); (case h => walk_at "look"))
  | ((with_reducible refine' y_tyD ?h ?_); (case h => walk_at "look"))
  | ((with_reducible refine' y_lenL ?h ?_); (case h => walk_at "look"))
  | ((with_reducible refine' y_lenR ?h ?_); (case h => walk_at "look"))
  | with_reducible refine' x_forT ?_
  | with_reducible refine' x_forL ?_
  | with_reducible refine' x_lcT ?_
  | with_reducible refine' x_lcL ?_
  | ((with_reducible refine' y_tupleL ?h ?_); (case h => walk_at "look"); intro _ _ _ _ _)
  | ((with_reducible refine' y_tupleR ?h ?_); (case h => walk_at "look"))
  | ((with_reducible refine' y_tupleT ?h ?_); (case h => walk_at "look"))
  | with_reducible refine' x_cont ?_
  | with_reducible refine' x_sfldc ?_
  | with_reducible refine' x_bl ?_
  | ((with_reducible refine' x_fldc ?h ?l ?_); (case h => walk_at "look"); (case l => first | rfl | decide +kernel))
  | ((with_reducible refine' x_setc ?h ?l ?_); (case h => walk_at "look"); (case l => exact Nat.le_of_ble_eq_true rfl); intro _ _ _)
  | ((with_reducible refine' y_num ?h ?_); (case h => walk_at "look"))
  | ((with_reducible refine' y_den ?h ?_); (case h => walk_at "look"))
  | with_reducible refine' y_I0 ?_
  | ((with_reducible refine' y_ixS ?h ?e ?a ?_); (case h => walk_at "look"); (case e => rfl); (case a => rfl))
  | ((with_reducible refine' y_ixI ?h ?e ?a ?_); (case h => walk_at "look"); (case e => rfl); (case a => rfl))
  | ((with_reducible refine' y_ixB ?h ?e ?a ?_); (case h => walk_at "look"); (case e => rfl); (case a => rfl))
  | ((with_reducible refine' y_ixR ?h ?e ?a ?_); (case h => walk_at "look"); (case e => rfl); (case a => rfl); intro _ _)
  | ((with_reducible refine' y_ixT ?h ?a ?_); (case h => walk_at "look"); (case a => rfl))
  | ((with_reducible refine' y_eq ?s ?_); (case s => rfl))
  | ((with_reducible refine' y_ne ?s ?_); (case s => rfl))
  | ((with_reducible refine' x_rtup ?l ?_); (case l => exact Nat.le_of_ble_eq_true rfl); intro _ _ _ _ _)
  | ((with_reducible refine' x_rlst ?l ?_); (case l => exact Nat.le_of_ble_eq_true rfl); intro _ _ _ _ _)
  | ((with_reducible refine' ite_t ?h ?_); (case h => first | with_reducible rfl | assumption | exact decide_eq_true (by omega) | decide +kernel | rfl))
  | ((with_reducible refine' ite_f ?h ?_); (case h => first | with_reducible rfl | assumption | exact decide_eq_false (by omega) | decide +kernel | rfl))))
/-! ### Ratio -/
def sp_Ratio_init (K : PySem.W.Frag) : Sp := fun vs H Q _ => ∃ (p dx : Addr) (a b : Int), vs = [.ref p, .int a, .int b] ∧ 0 < b ∧ a.natAbs < 2 ^ 200 ∧ b.natAbs < 2 ^ 200 ∧ H p = some (.ins (He.ga K "Ratio") dx []) ∧
  ∀ H', But p H H' → H' p = some (.ins (He.ga K "Ratio") dx (ratF (mkRat a b.toNat))) → Q .non H'
theorem gcd_turn {g r : Nat} (hr : r ≠ 0) : Nat.gcd r (g % r) = Nat.gcd g r := by
  rw [Nat.gcd_comm r, ← Nat.gcd_rec, Nat.gcd_comm]
theorem put2 {a b : V} : putF "den" b (putF "num" a []) = ([("num", a), ("den", b)] : List (Str × V)) := by rfl
section
variable {P : Program} {w : World} {K : PySem.W.Frag} {mg : Str → Option Value} {base : Heap}
theorem sc_Ratio_init : FnScope ["self", "num", "den", "divisor", "rest"] ["self", "num", "den"] (defScope s_Ratio_init) := ⟨rfl, rfl, rfl, by decide +kernel, rfl, by decide +kernel, by decide +kernel⟩
theorem ok_Ratio_init (T : Tx K mg) {fd : FuncData} (F : FnX K d_Ratio_init fd) : FnOk P w K mg base CX0 1 (He.fAd K d_Ratio_init.at_) fd ["self", "num", "den"] (sp_Ratio_init K) := by
  refine F.ok sc_Ratio_init (fun vs H Q E h => ?_) (fun cdv A outer s H vs Q E hr h => ?_)
  · obtain ⟨p, dx, a, b, rfl, _⟩ := h
    rfl
  obtain ⟨p, dx, a, b, rfl, hb, la, lb, hp, q⟩ := h
  refine ⟨_, PSs.nox (pss_cons (ps_if (pt_cmpR op_le (pv 2) pe_int (nomark _)) pss_never pss_nil)
    (pss_cons (ps_set (i := 3) sc_Ratio_init.nd rfl (Or.inl rfl) (pv 2))
    (pss_cons (ps_set (i := 4) sc_Ratio_init.nd rfl (Or.inl rfl) (pe_callB call_abs (by rfl) T.f_abs (by decide +kernel) (pa_cons (pv 1) pa_nil)))
    (pss_cons (ps_while PassesOwn.never (pt_truth (pv 4) (by intro _; rfl)) (pss_one (ps_par (i := 3) (j := 4) rfl sc_Ratio_init.nd rfl rfl (by decide) rfl rfl (pa_cons (pv 4) (pa_cons (pe_op op_mod (pv 3) (pv 4)) pa_nil)) rfl)))
    (pss_cons (ps_fldc T.cl_Ratio T.n_Ratio_num (pv 0) (pe_op op_fdivW (pv 1) (pv 3)))
    (pss_one (ps_fldc T.cl_Ratio T.n_Ratio_den (pv 0) (pe_op op_fdivW (pv 2) (pv 3))))))))), ?_⟩
  walk_at "vc"
  refine ⟨a, rfl, ?_⟩
  walk_at "vc"
  have ea : (if a < 0 then -a else a) = (a.natAbs : Int) := by split <;> omega
  rw [ea]
  have e0 : b = (b.toNat : Int) := by omega
  refine while_by (fun σ H' => ∃ g r : Nat, σ = [some (.ref p), some (.int a), some (.int b), some (.int (g : Int)), some (.int (r : Int))] ∧ H' = H ∧ Nat.gcd g r = Nat.gcd b.toNat a.natAbs ∧ 0 < g)
    (fun σ _ => match σ with | [_, _, _, _, some (.int r)] => r.toNat | _ => 0) ?_ ?_ ?_
  · exact ⟨b.toNat, a.natAbs, by rw [← e0]; rfl, rfl, rfl, by omega⟩
  · rintro σ H' ⟨g, r, rfl, rfl, hg, h0⟩
    refine ⟨_, rfl, _, rfl, ?_⟩
    by_cases c : r = 0
    · subst c
      refine ite_f rfl ?_
      have eg : g = Nat.gcd b.toNat a.natAbs := by rw [← hg, Nat.gcd_zero_right]
      have lg : g ≤ b.toNat := by rw [eg]; exact Nat.gcd_le_left _ (by omega)
      have cd : CDivW a (g : Int) := wide_div (b := 200) (by omega) (by omega) (by decide) (by decide)
      have cd' : CDivW b (g : Int) := wide_div (b := 200) (by omega) (by omega) (by decide) (by decide)
      show tSeq _ _ _ _ _
      walk_at "vc"
      refine y_I cd ?_
      walk_at "vc"
      refine y_I cd' ?_
      walk_at "vc"
      rename_i H1 b1 h1 H2 b2 h2
      refine q H2 (b1.trans b2) ?_
      rw [h2]
      have nz : b.toNat ≠ 0 := by omega
      have en : (mkRat a b.toNat).num = a / (g : Int) := by rw [Rat.num_mkRat, if_neg nz, ← eg]
      have ed : ((mkRat a b.toNat).den : Int) = b / (g : Int) := by rw [Rat.den_mkRat, if_neg nz, ← eg, Int.natCast_ediv, ← e0]
      unfold ratF
      rw [en, ed]
      rfl
    · refine ite_t (by simpa using c) ?_
      walk_at "vc"
      refine x_par (v := .int (r : Int)) (w := .int ((g % r : Nat) : Int)) ?_ ?_
      · walk_at "vc"
        refine y_I (by omega) ?_
        walk_at "vc"
        refine ⟨by rw [Int.natCast_emod], ⟨r, g % r, rfl, rfl, by rw [gcd_turn c]; exact hg, by omega⟩, ?_⟩
        show (((g % r : Nat) : Int)).toNat < ((r : Int)).toNat
        have := Nat.mod_lt g (by omega : r > 0)
        omega
      · rintro σ H Q Q' m ⟨v, h1, v2, h2, v3, h3, i, j, e1, e2, e3, q⟩
        exact ⟨v, h1, v2, h2, v3, h3, i, j, e1, e2, e3, m _ _ q⟩
  · rintro σ H Q Q' m ⟨v, h1, k, h2, q⟩
    exact ⟨v, h1, k, h2, m _ _ q⟩
theorem c_Ratio_init (T : Tx K mg) : Cal P w K mg base 1 d_Ratio_init ["self", "num", "den"] [] (sp_Ratio_init K) :=
  Cal.ofD 1 T.d_Ratio_init (by intro z; cases z) rfl (fun _ _ _ _ _ _ _ us its h1 h2 => match us, its, h1, h2 with | [_, _, _], [_], _, _ => ⟨_, rfl, rfl⟩) fun fd F => ok_Ratio_init T F
theorem c_Ratio_init1 (T : Tx K mg) : Cal P w K mg base 1 d_Ratio_init ["self", "num", "den"] [.int 1] (sp_Ratio_init K) :=
  Cal.ofD 0 T.d_Ratio_init (by intro z; cases z) rfl (fun _ _ _ _ _ _ _ us its h1 h2 => match us, its, h1, h2 with | [_, _], [_], _, _ => ⟨_, rfl, rfl⟩) fun fd F => ok_Ratio_init T F
/-- Ratio(a, b) -/
theorem y_mkR {H : Hp} {Q : VK} {a b : Int} (h0 : 0 < b) (la : a.natAbs < 2 ^ 200) (lb : b.natAbs < 2 ^ 200) (q : ∀ v H', Same H H' → RR K H' v (mkRat a b.toNat) → Q v H') : rMake (He.ga K "Ratio") (sp_Ratio_init K) [.int a, .int b] H Q := by
  intro x dx hx hdx ne
  refine ⟨x, dx, a, b, rfl, h0, la, lb, upd_same, fun H' b1 h1 => ⟨rfl, q _ _ (fun c o e => b1 c o (ne_of_none e hx) ?_) ⟨x, dx, rfl, h1⟩⟩⟩
  rw [upd_ne (ne_of_none e hx), upd_ne (ne_of_none e hdx)]
  exact e
theorem y_mkR' {H : Hp} {Q : VK} {a b : Int} {r : Rat} (h0 : 0 < b) (la : a.natAbs < 2 ^ 200) (lb : b.natAbs < 2 ^ 200) (e : mkRat a b.toNat = r) (q : ∀ v H', Same H H' → RR K H' v r → Q v H') : rMake (He.ga K "Ratio") (sp_Ratio_init K) [.int a, .int b] H Q := y_mkR h0 la lb (e ▸ q)
/-! the operators -/
def sp_Ratio_op (K : PySem.W.Frag) (f : Rat → Rat → Rat) : Sp := fun vs H Q _ => ∃ (x y : V) (r s : Rat), vs = [x, y] ∧ RR K H x r ∧ RR K H y s ∧ Sm r ∧ Sm s ∧ ∀ v H', Same H H' → RR K H' v (f r s) → Q v H'
abbrev sp_Ratio_add (K : PySem.W.Frag) : Sp := sp_Ratio_op K (· + ·)
abbrev sp_Ratio_sub (K : PySem.W.Frag) : Sp := sp_Ratio_op K (· - ·)
abbrev sp_Ratio_mul (K : PySem.W.Frag) : Sp := sp_Ratio_op K (· * ·)
theorem mul_lt2 {a b : Int} {m n : Nat} (ha : a.natAbs < 2 ^ m) (hb : b.natAbs < 2 ^ n) : (a * b).natAbs < 2 ^ (m + n) := by
  rw [Int.natAbs_mul, Nat.pow_add]
  exact Nat.mul_lt_mul'' ha hb
theorem cm_of {a b : Int} (h : a.natAbs < 2 ^ 60) : CMul a b := by
  have e : (2 : Nat) ^ 60 < 2 ^ 64 := by decide
  exact Or.inl (by omega)
theorem den_abs (r : Rat) : ((r.den : Int)).natAbs = r.den := Int.natAbs_natCast _
theorem op_bounds {r s : Rat} (hr : Sm r) (hs : Sm s) : (0 : Int) < (r.den : Int) * (s.den : Int) ∧ ((r.den : Int) * (s.den : Int)).natAbs < 2 ^ 200 ∧ (r.num * s.den + s.num * r.den).natAbs < 2 ^ 200 ∧ (r.num * s.den - s.num * r.den).natAbs < 2 ^ 200 ∧ (r.num * s.num).natAbs < 2 ^ 200 ∧
    ((r.den : Int) * (s.den : Int)).toNat = r.den * s.den := by
  have h1 := mul_lt2 (a := r.num) (b := (s.den : Int)) (m := 60) (n := 60) hr.1 (by rw [den_abs]; exact hs.2)
  have h2 := mul_lt2 (a := s.num) (b := (r.den : Int)) (m := 60) (n := 60) hs.1 (by rw [den_abs]; exact hr.2)
  have h3 := mul_lt2 (a := (r.den : Int)) (b := (s.den : Int)) (m := 60) (n := 60) (by rw [den_abs]; exact hr.2) (by rw [den_abs]; exact hs.2)
  have h4 := mul_lt2 (a := r.num) (b := s.num) (m := 60) (n := 60) hr.1 hs.1
  have k : (2 : Nat) ^ (60 + 60) + 2 ^ (60 + 60) < 2 ^ 200 := by decide
  have p1 : (0 : Int) < (r.den : Int) := by have := r.den_pos; omega
  have p2 : (0 : Int) < (s.den : Int) := by have := s.den_pos; omega
  refine ⟨Int.mul_pos p1 p2, by omega, by omega, by omega, by omega, ?_⟩
  rw [← Int.natCast_mul, Int.toNat_natCast]
theorem sc_Ratio_add : FnScope ["self", "other"] ["self", "other"] (defScope s_Ratio_add) := ⟨rfl, rfl, rfl, by decide +kernel, rfl, by decide +kernel, by decide +kernel⟩
theorem sc_Ratio_sub : FnScope ["self", "other"] ["self", "other"] (defScope s_Ratio_sub) := ⟨rfl, rfl, rfl, by decide +kernel, rfl, by decide +kernel, by decide +kernel⟩
theorem sc_Ratio_mul : FnScope ["self", "other"] ["self", "other"] (defScope s_Ratio_mul) := ⟨rfl, rfl, rfl, by decide +kernel, rfl, by decide +kernel, by decide +kernel⟩
theorem ok_Ratio_add (T : Tx K mg) {fd : FuncData} (F : FnX K d_Ratio_add fd) : FnOk P w K mg base CX0 3 (He.fAd K d_Ratio_add.at_) fd ["self", "other"] (sp_Ratio_add K) := by
  refine F.ok sc_Ratio_add (fun vs H Q E h => ?_) (fun cdv A outer s H vs Q E hr h => ?_)
  · obtain ⟨x, y, r, s, rfl, _⟩ := h
    rfl
  obtain ⟨x, y, r, s, rfl, hx, hy, mr, ms, q⟩ := h
  refine ⟨_, PSs.nox (pss_one (ps_ret (pe_mkc (c_Ratio_init T) T.mk_Ratio (hr.mono (by omega)) rfl T.g_Ratio (pa_cons (pe_op op_add (pe_op op_mul (pe_fldc T.cl_Ratio T.n_Ratio_num (pv 0)) (pe_fldc T.cl_Ratio T.n_Ratio_den (pv 1))) (pe_op op_mul (pe_fldc T.cl_Ratio T.n_Ratio_num (pv 1)) (pe_fldc T.cl_Ratio T.n_Ratio_den (pv 0)))) (pa_cons (pe_op op_mul (pe_fldc T.cl_Ratio T.n_Ratio_den (pv 0)) (pe_fldc T.cl_Ratio T.n_Ratio_den (pv 1))) pa_nil))))), ?_⟩
  obtain ⟨b0, b1, b2, b3, b4, b5⟩ := op_bounds mr ms
  walk_at "vc"
  refine y_I (cm_of mr.1) ?_
  walk_at "vc"
  refine y_I (cm_of ms.1) ?_
  walk_at "vc"
  refine y_I (cm_of (by rw [den_abs]; exact mr.2)) ?_
  walk_at "vc"
  refine y_mkR' b0 b2 b1 ?_ q
  rw [b5]
  exact (Rat.add_def' r s).symm
theorem ok_Ratio_sub (T : Tx K mg) {fd : FuncData} (F : FnX K d_Ratio_sub fd) : FnOk P w K mg base CX0 3 (He.fAd K d_Ratio_sub.at_) fd ["self", "other"] (sp_Ratio_sub K) := by
  refine F.ok sc_Ratio_sub (fun vs H Q E h => ?_) (fun cdv A outer s H vs Q E hr h => ?_)
  · obtain ⟨x, y, r, s, rfl, _⟩ := h
    rfl
  obtain ⟨x, y, r, s, rfl, hx, hy, mr, ms, q⟩ := h
  refine ⟨_, PSs.nox (pss_one (ps_ret (pe_mkc (c_Ratio_init T) T.mk_Ratio (hr.mono (by omega)) rfl T.g_Ratio (pa_cons (pe_op op_sub (pe_op op_mul (pe_fldc T.cl_Ratio T.n_Ratio_num (pv 0)) (pe_fldc T.cl_Ratio T.n_Ratio_den (pv 1))) (pe_op op_mul (pe_fldc T.cl_Ratio T.n_Ratio_num (pv 1)) (pe_fldc T.cl_Ratio T.n_Ratio_den (pv 0)))) (pa_cons (pe_op op_mul (pe_fldc T.cl_Ratio T.n_Ratio_den (pv 0)) (pe_fldc T.cl_Ratio T.n_Ratio_den (pv 1))) pa_nil))))), ?_⟩
  obtain ⟨b0, b1, b2, b3, b4, b5⟩ := op_bounds mr ms
  walk_at "vc"
  refine y_I (cm_of mr.1) ?_
  walk_at "vc"
  refine y_I (cm_of ms.1) ?_
  walk_at "vc"
  refine y_I (cm_of (by rw [den_abs]; exact mr.2)) ?_
  walk_at "vc"
  refine y_mkR' b0 b3 b1 ?_ q
  rw [b5]
  exact (Rat.sub_def' r s).symm
theorem ok_Ratio_mul (T : Tx K mg) {fd : FuncData} (F : FnX K d_Ratio_mul fd) : FnOk P w K mg base CX0 3 (He.fAd K d_Ratio_mul.at_) fd ["self", "other"] (sp_Ratio_mul K) := by
  refine F.ok sc_Ratio_mul (fun vs H Q E h => ?_) (fun cdv A outer s H vs Q E hr h => ?_)
  · obtain ⟨x, y, r, s, rfl, _⟩ := h
    rfl
  obtain ⟨x, y, r, s, rfl, hx, hy, mr, ms, q⟩ := h
  refine ⟨_, PSs.nox (pss_one (ps_ret (pe_mkc (c_Ratio_init T) T.mk_Ratio (hr.mono (by omega)) rfl T.g_Ratio (pa_cons (pe_op op_mul (pe_fldc T.cl_Ratio T.n_Ratio_num (pv 0)) (pe_fldc T.cl_Ratio T.n_Ratio_num (pv 1))) (pa_cons (pe_op op_mul (pe_fldc T.cl_Ratio T.n_Ratio_den (pv 0)) (pe_fldc T.cl_Ratio T.n_Ratio_den (pv 1))) pa_nil))))), ?_⟩
  obtain ⟨b0, b1, b2, b3, b4, b5⟩ := op_bounds mr ms
  walk_at "vc"
  refine y_I (cm_of mr.1) ?_
  walk_at "vc"
  refine y_I (cm_of (by rw [den_abs]; exact mr.2)) ?_
  walk_at "vc"
  refine y_mkR' b0 b4 b1 ?_ q
  rw [b5]
  exact (Rat.mul_def' r s).symm
theorem c_Ratio_add (T : Tx K mg) : Cal P w K mg base 3 d_Ratio_add ["self", "other"] [] (sp_Ratio_add K) :=
  Cal.of T.d_Ratio_add rfl rfl (fun _ _ _ _ _ _ us hl => match us, hl with | [_, _], _ => rfl) fun fd F => ok_Ratio_add T F
theorem c_Ratio_sub (T : Tx K mg) : Cal P w K mg base 3 d_Ratio_sub ["self", "other"] [] (sp_Ratio_sub K) :=
  Cal.of T.d_Ratio_sub rfl rfl (fun _ _ _ _ _ _ us hl => match us, hl with | [_, _], _ => rfl) fun fd F => ok_Ratio_sub T F
theorem c_Ratio_mul (T : Tx K mg) : Cal P w K mg base 3 d_Ratio_mul ["self", "other"] [] (sp_Ratio_mul K) :=
  Cal.of T.d_Ratio_mul rfl rfl (fun _ _ _ _ _ _ us hl => match us, hl with | [_, _], _ => rfl) fun fd F => ok_Ratio_mul T F
/-! below, == -/
def sp_Ratio_below (K : PySem.W.Frag) : Sp := fun vs H Q _ => ∃ (x y : V) (r s : Rat), vs = [x, y] ∧ RR K H x r ∧ RR K H y s ∧ Sm r ∧ Sm s ∧ Q (.bl (decide (r < s))) H
theorem sc_Ratio_below : FnScope ["self", "other"] ["self", "other"] (defScope s_Ratio_below) := ⟨rfl, rfl, rfl, by decide +kernel, rfl, by decide +kernel, by decide +kernel⟩
theorem ok_Ratio_below (T : Tx K mg) {fd : FuncData} (F : FnX K d_Ratio_below fd) : FnOk P w K mg base CX0 1 (He.fAd K d_Ratio_below.at_) fd ["self", "other"] (sp_Ratio_below K) := by
  refine F.ok sc_Ratio_below (fun vs H Q E h => ?_) (fun cdv A outer s H vs Q E hr h => ?_)
  · obtain ⟨x, y, r, s, rfl, _⟩ := h
    rfl
  obtain ⟨x, y, r, s, rfl, hx, hy, mr, ms, q⟩ := h
  refine ⟨_, PSs.nox (pss_one (ps_ret (pe_cmpR op_lt (pe_op op_mul (pe_fldc T.cl_Ratio T.n_Ratio_num (pv 0)) (pe_fldc T.cl_Ratio T.n_Ratio_den (pv 1))) (pe_op op_mul (pe_fldc T.cl_Ratio T.n_Ratio_num (pv 1)) (pe_fldc T.cl_Ratio T.n_Ratio_den (pv 0))) (nomark _)))), ?_⟩
  walk_at "vc"
  refine y_I (cm_of mr.1) ?_
  walk_at "vc"
  refine y_I (cm_of ms.1) ?_
  walk_at "vc"
  have e : decide (r.num * (s.den : Int) < s.num * (r.den : Int)) = decide (r < s) := by
    rw [decide_eq_decide]
    exact (Rat.lt_iff r s).symm
  show Q (.bl (decide (r.num * (s.den : Int) < s.num * (r.den : Int)))) H
  rw [e]
  exact q
theorem c_Ratio_below (T : Tx K mg) : Cal P w K mg base 1 d_Ratio_below ["self", "other"] [] (sp_Ratio_below K) :=
  Cal.of T.d_Ratio_below rfl rfl (fun _ _ _ _ _ _ us hl => match us, hl with | [_, _], _ => rfl) fun fd F => ok_Ratio_below T F
end
end Tn
set_option Elab.async false
set_option linter.all false
set_option maxRecDepth 100000
set_option maxHeartbeats 4000000
namespace Tn
open PySem PySem.Spec L2
local macro_rules | `(tactic| walk_at "tz") => `(tactic| first
  | ((refine' Tz.same ?s); (case s => with_reducible assumption))
  | ((refine' Tz.but ?b ?h ?n); (case b => with_reducible assumption); (case h => walk_at "look"); (case n => (intro o v z; cases z))))
local macro_rules | `(tactic| walk_at "fz") => `(tactic| first
  | ((refine' Fz.same ?s); (case s => with_reducible assumption))
  | ((refine' Fz.but ?b ?h ?n); (case b => with_reducible assumption); (case h => walk_at "look"); (case n => first | exact nf_lst | exact nf_dK | exact nf_ext | assumption)))
local macro_rules | `(tactic| walk_at "look") => `(tactic| first
  | with_reducible assumption
  | ((with_reducible refine' Same.app ?s ?m); (case s => with_reducible assumption); (case m => walk_at "look"))
  | ((with_reducible refine' RR.fz ?z ?m); (case z => walk_at "fz"); (case m => walk_at "look"))
  | ((with_reducible refine' Rp.tz ?z ?m); (case z => walk_at "tz"); (case m => walk_at "look"))
  | ((with_reducible refine' TU.tz ?z ?m); (case z => walk_at "tz"); (case m => walk_at "look"))
  | ((with_reducible refine' RpL.tz ?z ?m); (case z => walk_at "tz"); (case m => walk_at "look"))
  | ((with_reducible refine' GM.fz ?z ?m); (case z => walk_at "fz"); (case m => walk_at "look"))
  | ((with_reducible refine' But.app' ?b ?n ?m); (case b => with_reducible assumption); (case n => first | assumption | (refine Ne.symm ?_; assumption)); (case m => walk_at "look"))
  | ((with_reducible refine' But.app ?b ?l ?d ?m); (case b => with_reducible assumption); (case m => walk_at "look"); (case l => walk_at "look"); (case d => (intro z; cases z))))
local macro_rules | `(tactic| walk_at "rp") => `(tactic| first
  | (with_reducible assumption)
  | walk_at "look"
  | exact Rp.bl _ | exact Rp.int _ | exact Rp.str _ | exact Rp.non
  | ((refine' Rp.tup ?h ?l); (case h => walk_at "look"); (case l => walk_at "rpl")))
local macro_rules | `(tactic| walk_at "rpl") => `(tactic| first
  | exact RpL.nil
  | ((refine' RpL.cons ?h ?l); (case h => walk_at "rp"); (case l => walk_at "rpl")))
local macro_rules | `(tactic| walk_at "vc") => `(tactic| repeat (first
  | with_reducible refine' x_seq ?_
  | with_reducible refine' x_ifS ?_
  | with_reducible refine' x_asg ?_
  | with_reducible refine' x_drop ?_
  | with_reducible refine' x_ret ?_
  | with_reducible refine' x_name ?_
  | with_reducible refine' x_c ?_
  | ((with_reducible refine' x_var ?h ?_); (case h => rfl))
  | with_reducible refine' x_op ?_
  | with_reducible refine' x_un ?_
  | with_reducible refine' x_tup ?_
  | with_reducible refine' x_lst ?_
  | ((with_reducible refine' x_gtup ?h ?l ?_); (case h => walk_at "look"); (case l => rfl))
  | ((with_reducible refine' x_gtup' ?h ?l ?_); (case h => walk_at "look"); (case l => rfl))
  | with_reducible refine' x_gcons ?_
  | with_reducible refine' x_gnil ?_
  | with_reducible refine' x_nil ?_
  | with_reducible refine' x_cons ?_
  | with_reducible refine' x_call ?_
  | with_reducible refine' x_meth ?_
  | ((with_reducible refine' x_methv ?h ?l ?_); (case h => walk_at "look"); (case l => first | rfl | decide +kernel))
  | with_reducible refine' x_make ?_
  | with_reducible refine' x_cb ?_
  | with_reducible refine' x_test ?_
  | with_reducible refine' x_B ?_
  | with_reducible refine' x_and ?_
  | with_reducible refine' x_or ?_
  | with_reducible refine' x_not ?_
  | with_reducible refine' x_if ?_
  | with_reducible refine' x_andV ?_
  | with_reducible refine' x_orV ?_
  | with_reducible refine' x_notV ?_
  | with_reducible refine' x_next ?_
  | with_reducible refine' x_gfldc ?_
  | with_reducible refine' x_bmF ?_
  | with_reducible refine' x_bmF0 ?_
  | ((with_reducible refine' y_tyL ?h ?_); (case h => walk_at "look"))
  | ((with_reducible refine' y_tyD ?h ?_); (case h => walk_at "look"))
  | ((with_reducible refine' y_lenL ?h ?_); (case h => walk_at "look"))
  | ((with_reducible refine' y_lenR ?h ?_); (case h => walk_at "look"))
  | with_reducible refine' x_forT ?_
  | with_reducible refine' x_forL ?_
  | with_reducible refine' x_lcT ?_
  | with_reducible refine' x_lcL ?_
  | ((with_reducible refine' y_tupleL ?h ?_); (case h => walk_at "look"); intro _ _ _ _ _)
  | ((with_reducible refine' y_tupleR ?h ?_); (case h => walk_at "look"))
  | ((with_reducible refine' y_tupleT ?h ?_); (case h => walk_at "look"))
  | with_reducible refine' x_cont ?_
  | with_reducible refine' x_sfldc ?_
  | with_reducible refine' x_bl ?_
  | ((with_reducible refine' x_fldc ?h ?l ?_); (case h => walk_at "look"); (case l => first | rfl | decide +kernel))
  | ((with_reducible refine' x_setc ?h ?l ?_); (case h => walk_at "look"); (case l => exact Nat.le_of_ble_eq_true rfl); intro _ _ _)
  | ((with_reducible refine' y_num ?h ?_); (case h => walk_at "look"))
  | ((with_reducible refine' y_den ?h ?_); (case h => walk_at "look"))
  | with_reducible refine' y_I0 ?_
  | ((with_reducible refine' y_ixS ?h ?e ?a ?_); (case h => walk_at "look"); (case e => rfl); (case a => rfl))
  | ((with_reducible refine' y_ixI ?h ?e ?a ?_); (case h => walk_at "look"); (case e => rfl); (case a => rfl))
  | ((with_reducible refine' y_ixB ?h ?e ?a ?_); (case h => walk_at "look"); (case e => rfl); (case a => rfl))
  | ((with_reducible refine' y_ixR ?h ?e ?a ?_); (case h => walk_at "look"); (case e => rfl); (case a => rfl); intro _ _)
  | ((with_reducible refine' y_ixT ?h ?a ?_); (case h => walk_at "look"); (case a => rfl))
  | ((with_reducible refine' y_eq ?s ?_); (case s => rfl))
  | ((with_reducible refine' y_ne ?s ?_); (case s => rfl))
  | ((with_reducible refine' x_rtup ?l ?_); (case l => exact Nat.le_of_ble_eq_true rfl); intro _ _ _ _ _)
  | ((with_reducible refine' x_rlst ?l ?_); (case l => exact Nat.le_of_ble_eq_true rfl); intro _ _ _ _ _)
  | ((with_reducible refine' ite_t ?h ?_); (case h => first | with_reducible rfl | assumption | exact decide_eq_true (by omega) | decide +kernel | rfl))
  | ((with_reducible refine' ite_f ?h ?_); (case h => first | with_reducible rfl | assumption | exact decide_eq_false (by omega) | decide +kernel | rfl))))
/-! ### an own class's operators -/
section
variable {prog : Program} {w : World} {A : Around} {E : Value → Shared → Prop} {s : Shared} {K : PySem.W.Frag} {x C L f : Addr} {h₀ : Heap} {m : Str → Option Value} {ox : Obj} {od : Option Obj}
theorem ne_bind (self : Value) : bindSpecial (.builtin "object.__ne__") self = pure (.builtin "object.__ne__", [self]) := PySem.F.slot_object_ne.bind self
/-- != by object's own rule over the class's == -/
theorem ne_K {b : Value} {Q : Value → Shared → Prop} (hu : A.units + 2 < cLine) (X : K.In s.heap) (I : PySem.W.InstAt s.heap x ox C od) (hb : PySem.W.Looks (model prog w) s.heap (typeOf b) (.ref C))
    (hn : PySem.W.findIn K (.ref C) "__ne__" = some (some (.builtin "object.__ne__"))) (hm : PySem.W.mroIn K C (.type "object") = some true) (he : PySem.W.findIn K (.ref C) "__eq__" = some (some (.ref f))) (hf : PySem.W.isFn K (.ref f) = true)
    (h : wpAny (model prog w) A.in1 (call (.ref f) [.ref x, b]) (fun v s' => ∃ k, v = .bool k ∧ Q (.bool (!k)) s') E s) : wpAny (model prog w) A (richCompare .NotEq (.ref x) b) Q E s := by
  have body : wpAny (model prog w) A.in1 (Builtin.«object.__ne__» ⟨[.ref x, b], []⟩) (fun fin s' => ∃ k, fin = .done (.ret (.bool (!k))) ∧ Q (.bool (!k)) s') E s := by
    unfold Builtin.«object.__ne__»
    have eqc : wpAny (model prog w) A.in1 (callSpecialIfBound? (.ref x) "__eq__" [b]) (fun r s' => ∃ k, r = some (.bool k) ∧ Q (.bool (!k)) s') E s :=
      PySem.W.ifBound_K X I he hf (wpAny_mono h (fun v s' z => let ⟨k, e, q⟩ := z; ⟨k, by rw [e], q⟩) fun _ _ z => z)
    have hu1 : A.in1.units < cLine := by show A.units + 1 < cLine; omega
    repeat (first
      | with_reducible refine wpAny_cRoomFor hu1 ?_
      | (refine wpAny_bind (m := callSpecialIfBound? (.ref x) (Str.ofString "__eq__") [b]) (wpAny_mono eqc (fun r s' z => ?_) fun _ _ z => z); obtain ⟨k, rfl, q⟩ := z)
      | (refine wpAny_bind (m := truthy (.bool _)) (wpAny_truthy_bool ?_))
      | exact ⟨_, rfl, q⟩
      | exact wpAny_pure ⟨_, rfl, q⟩
      | wp_step)
  have one : wpAny (model prog w) A (tryCompare (.ref x) "__ne__" b) (fun r s' => ∃ v, r = some v ∧ Q v s') E s := by
    unfold tryCompare
    have inner : wpAny (model prog w) A (call (.builtin "object.__ne__") [.ref x, b]) (fun v s' => ∃ k, v = .bool (!k) ∧ Q (.bool (!k)) s') E s :=
      wpAny_call (codeAny_call_builtin PySem.F.slot_object_ne.plain F.cmpEntry_ne (PySem.W.check_slot F.cmpKind_ne F.cmpSplit_ne (I.type.andThen (PySem.W.looks_mroIn X hm)) (F.cmpArgs_ne _ _)
        (wpAny_mono body (fun fin s' z => by obtain ⟨k, rfl, q⟩ := z; exact ⟨k, rfl, q⟩) fun _ _ z => z)))
    have cs : wpAny (model prog w) A (callSpecialIfBound? (.ref x) "__ne__" [b]) (fun r s' => ∃ k, r = some (.bool k) ∧ Q (.bool k) s') E s := by
      simp only [callSpecialIfBound?, bindSpecialIfBound?]
      refine wpAny_holding (wpAny_bind (wpAny_bind (wpAny_bind (I.type.here ((PySem.W.looks_findIn X hn).here ?_)))))
      refine wpAny_bind (wpAny_askSetting (wpAny_ite ?_))
      have fin : wpAny (model prog w) A (call (.builtin "object.__ne__") ([.ref x] ++ [b]) >>= fun v => pure (some v)) (fun r s' => ∃ k, r = some (.bool k) ∧ Q (.bool k) s') E s :=
        wpAny_bind (wpAny_mono inner (fun v s' z => by obtain ⟨k, rfl, q⟩ := z; exact wpAny_pure ⟨_, rfl, q⟩) fun _ _ z => z)
      split
      · rw [ne_bind]
        exact wpAny_bind (wpAny_pure (wpAny_pure (by exact fin)))
      · rw [ne_bind]
        exact wpAny_tryCatch (wpAny_bind (wpAny_pure (wpAny_pure (by exact fin))))
    refine wpAny_bind (wpAny_mono cs (fun r s' z => ?_) fun _ _ z => z)
    obtain ⟨k, rfl, q⟩ := z
    exact wpAny_pure ⟨_, rfl, q⟩
  unfold richCompare
  simp only [oneThing_ref]
  refine wpAny_holding (wpAny_bind (wpAny_cRoomFor (by omega) ?_))
  refine wpAny_bind (I.type.here (wpAny_bind (hb.here ?_)))
  rw [show (Value.ref C != Value.ref C) = false from by simp]
  simp only [Bool.false_eq_true, if_false]
  refine wpAny_bind (wpAny_pure ?_)
  simp only [Bool.false_eq_true, if_false]
  refine wpAny_bind (wpAny_mono one (fun r s' z => ?_) fun _ _ z => z)
  obtain ⟨v, rfl, q⟩ := z
  exact wpAny_pure q
end
/-- two instances of the class at C, the def's promise of them -/
def rOwn (C : Addr) (sp : Sp) : R2 := fun x y H Q => ∃ a b dx dy fs gs, x = .ref a ∧ y = .ref b ∧ H a = some (.ins C dx fs) ∧ H b = some (.ins C dy gs) ∧ sp [x, y] H Q E0
def rOwnNe (C : Addr) (sp : Sp) : R2 := fun x y H Q => ∃ a b dx dy fs gs, x = .ref a ∧ y = .ref b ∧ H a = some (.ins C dx fs) ∧ H b = some (.ins C dy gs) ∧ sp [x, y] H (fun v H' => ∃ k, v = .bl k ∧ Q (.bl (!k)) H') E0
section
variable {X : Cx} {k : Nat} {d : He.DefD} {ps : List Str} {sp : Sp} {C : Addr}
theorem op_own {op : Operator} {m : Str} (c : Cal X.prog X.w X.K X.mg X.base k d ps [] sp) (hm : Meth X.K C m (He.fAd X.K d.at_)) (hc : PySem.W.selfFirst X.K C = true) (hr : Room k X.A) (e : PySem.dunder op.info.2 = m := by rfl) : OpR X (binaryOp op) (rOwn C sp) := by
  intro pins s σ H x y v u Q I rx ry ⟨a, b, dx, dy, fs, gs, ex, ey, ha, hb, q⟩
  obtain ⟨⟨fd, ds, F, hd, hbi⟩, kp⟩ := c
  cases hd
  subst ex ey
  cases rx
  cases ry
  obtain ⟨mA, J, _⟩ := ins_get I.hok ha
  obtain ⟨mB, J', _⟩ := ins_get I.hok hb
  obtain ⟨od, J, _⟩ := J.look
  obtain ⟨od', J', _⟩ := J'.look
  obtain ⟨m', hF⟩ := I.fr
  refine PySem.W.binop_K hF I.ok.mod.kin J J'.type hc (by rw [e]; exact hm.at_) hm.fn ?_
  refine thn (run_fn (vs := [.ref a, .ref b]) F hr hbi .nil pass0 I (.cons rfl (.cons rfl .nil)) q) fun z s' ⟨v, H', I', r, q⟩ => ?_
  have goal : EP X pins σ Q z s' := ⟨v, H', I', r, q⟩
  cases v <;> first
    | (obtain ⟨t, rfl⟩ := r; exact goal)
    | (cases r; exact goal)
theorem op_ownNe {m : Str} (c : Cal X.prog X.w X.K X.mg X.base k d ps [] sp) (hm : Meth X.K C "__eq__" (He.fAd X.K d.at_)) (hn : PySem.W.findIn X.K (.ref C) "__ne__" = some (some (.builtin "object.__ne__"))) (ho : PySem.W.mroIn X.K C (.type "object") = some true)
    (hr : Room (k + 1) X.A) : OpR X (compareOp .NotEq) (rOwnNe C sp) := by
  intro pins s σ H x y v u Q I rx ry ⟨a, b, dx, dy, fs, gs, ex, ey, ha, hb, q⟩
  obtain ⟨⟨fd, ds, F, hd, hbi⟩, kp⟩ := c
  cases hd
  subst ex ey
  cases rx
  cases ry
  obtain ⟨mA, J, _⟩ := ins_get I.hok ha
  obtain ⟨mB, J', _⟩ := ins_get I.hok hb
  obtain ⟨od, J, _⟩ := J.look
  obtain ⟨od', J', _⟩ := J'.look
  have hu := hr.un
  show wpAny (model X.prog X.w) X.A (richCompare .NotEq (.ref a) (.ref b)) (EP X pins σ Q) X.xe s
  refine ne_K (by omega) I.kIn J J'.type hn ho hm.at_ hm.fn ?_
  have e0 : Env0 X.prog X.w X.K X.mg X.base X.A.in1 X.stack s H := I.env0.in1
  have r2 : Vals [V.ref a, V.ref b] [Value.ref a, Value.ref b] := .cons rfl (.cons rfl .nil)
  have hl := F.len _ _ _ _ q
  refine wpAny_call (codeAny_mono (F.run X.A.in1 X.stack s H ⟨[.ref a, .ref b], []⟩ [.ref a, .ref b] [.ref a, .ref b] _ E0 hr.in1 e0 (by
    have := hbi s [.ref a, .ref b] I.kIn (by simpa using hl)
    simpa using this) r2 q) fun r s' hq => ?_)
  cases r with
  | error e => exact hq.elim
  | ok fl =>
    cases fl with
    | ret w =>
      obtain ⟨z, H', I', rz, j, ez, q'⟩ := I.after hq
      subst ez
      cases rz
      exact ⟨j, rfl, .bl (!j), H', I', rfl, q'⟩
    | next => exact False.elim hq
    | brk => exact False.elim hq
    | cont => exact False.elim hq
/-- isinstance(x, C): x an instance of that very class -/
def rIsi (C : Addr) : List V → Hp → VK → Prop := fun xs H Q => ∃ a dx fs, xs = [.ref a, .ref C] ∧ H a = some (.ins C dx fs) ∧ Q (.bl true) H
theorem call_isiO (cl : Cls X.K C) (hi : isiB X.K C = true) : CallR X (.builtin "isinstance") (rIsi C) := by
  intro pins s σ H xs us Q I r ⟨a, dx, fs, e, ha, q⟩
  subst e
  cases r with
  | cons r1 r2 =>
    cases r2 with
    | cons r2 r3 =>
      cases r3
      cases r1
      cases r2
      obtain ⟨h1, h2⟩ := He.ba hi
      obtain ⟨h2, h3⟩ := He.ba h2
      obtain ⟨h3, h4⟩ := He.ba h3
      refine isinst_ok (x := .ref a) (t := .ref C) (b := true) I rfl (.ins ha cl (He.eqO_ok h1) (He.eqO_ok h2) (of_decide_eq_true h3) (of_decide_eq_true h4)) (by unfold PySem.W.kitOne; rw [if_pos (by simp)]) fun tk => ?_
      exact ⟨.bl true, H, I.tok tk, rfl, q⟩
/-- a whole number of the module -/
theorem pe_gi {x : Str} {i : Int} {pos : Pos} (hg : Gl X x) (h : ∃ t, X.mg x = some (.int i t)) (hd : (x == ("__debug__" : Str)) = false := by decide) : PE X (.Name x pos) (tC (.int i)) := by
  obtain ⟨t, h⟩ := h
  exact pe_glob hg h ⟨t, rfl⟩ hd
end
section
variable {K : PySem.W.Frag} {mg : Str → Option Value}
theorem Tx.exs (T : Tx K mg) : apartB (clsL K) = true ∧ isiB K (He.ga K "Ratio") = true ∧ isiB K (He.ga K "Game") = true ∧ neB K (He.ga K "Ratio") = true ∧ neB K (He.ga K "Game") = true ∧
    He.tupB K "SAME" [.str "fold", .str "swap", .str "drop", .str "toss", .str "shift", .str "sink", .str "erase", .str "spell"] = true := by
  obtain ⟨a, h⟩ := He.ba T.says.2
  obtain ⟨b, h⟩ := He.ba h
  obtain ⟨c, h⟩ := He.ba h
  obtain ⟨d, h⟩ := He.ba h
  obtain ⟨e, f⟩ := He.ba h
  exact ⟨a, b, c, d, e, f⟩
theorem Tx.self_Ratio (T : Tx K mg) : PySem.W.selfFirst K (He.ga K "Ratio") = true := (He.ba T.exs.2.2.2.1).1
theorem Tx.ne_Ratio (T : Tx K mg) : PySem.W.findIn K (.ref (He.ga K "Ratio")) "__ne__" = some (some (.builtin "object.__ne__")) := He.eqO_ok (He.ba T.exs.2.2.2.1).2
theorem Tx.ne_Game (T : Tx K mg) : PySem.W.findIn K (.ref (He.ga K "Game")) "__ne__" = some (some (.builtin "object.__ne__")) := He.eqO_ok (He.ba T.exs.2.2.2.2.1).2
theorem isi_mro {C : Addr} (h : isiB K C = true) : PySem.W.mroIn K C (.type "object") = some true := of_decide_eq_true (He.ba (He.ba (He.ba h).2).2).2
theorem Tx.apart (T : Tx K mg) : He.ga K "Ratio" ≠ He.ga K "Moment" ∧ He.ga K "Game" ≠ He.ga K "Moment" ∧ He.ga K "Runner" ≠ He.ga K "Moment" ∧ He.ga K "Bound" ≠ He.ga K "Moment" ∧
    He.ga K "Ratio" ≠ He.ga K "Look" ∧ He.ga K "Game" ≠ He.ga K "Look" ∧ He.ga K "Runner" ≠ He.ga K "Look" ∧ He.ga K "Bound" ≠ He.ga K "Look" ∧
    He.ga K "Ratio" ≠ He.ga K "Derivation" ∧ He.ga K "Game" ≠ He.ga K "Derivation" ∧ He.ga K "Runner" ≠ He.ga K "Derivation" ∧ He.ga K "Bound" ≠ He.ga K "Derivation" := by
  have h := T.exs.1
  simp only [clsL, List.map_cons, List.map_nil, apartB, List.all_cons, List.all_nil, Bool.and_true, Bool.and_eq_true, Bool.not_eq_true', beq_eq_false_iff_ne] at h
  obtain ⟨⟨a1, a2, a3, a4, a5, a6⟩, ⟨b1, b2, b3, b4, b5⟩, ⟨c1, c2, c3, c4⟩, ⟨d1, d2, d3⟩, ⟨e1, e2⟩, f1⟩ := h
  exact ⟨a1, fun z => b4 z.symm, fun z => b1 z.symm, fun z => b3 z.symm, a3, fun z => d2 z.symm, c1, fun z => d1 z.symm, a6, f1, c4, e2⟩
theorem Tx.nf_Moment (T : Tx K mg) {dx : Addr} {fs : List (Str × V)} : ¬ Frz K (.ins (He.ga K "Moment") dx fs) := by
  obtain ⟨a, b, c, d, _⟩ := T.apart
  rintro (z | z | z | z)
  · exact a z.symm
  · exact b z.symm
  · exact c z.symm
  · exact d z.symm
theorem Tx.nf_Look (T : Tx K mg) {dx : Addr} {fs : List (Str × V)} : ¬ Frz K (.ins (He.ga K "Look") dx fs) := by
  obtain ⟨_, _, _, _, a, b, c, d, _⟩ := T.apart
  rintro (z | z | z | z)
  · exact a z.symm
  · exact b z.symm
  · exact c z.symm
  · exact d z.symm
theorem Tx.nf_Derivation (T : Tx K mg) {dx : Addr} {fs : List (Str × V)} : ¬ Frz K (.ins (He.ga K "Derivation") dx fs) := by
  obtain ⟨_, _, _, _, _, _, _, _, a, b, c, d⟩ := T.apart
  rintro (z | z | z | z)
  · exact a z.symm
  · exact b z.symm
  · exact c z.symm
  · exact d z.symm
end
/-! ### ratios: the operators by values -/
section
variable {K : PySem.W.Frag} {H : Hp} {Q : VK} {x y : V} {r s : Rat}
theorem y_rop {f : Rat → Rat → Rat} (hx : RR K H x r) (hy : RR K H y s) (mr : Sm r) (ms : Sm s) (q : ∀ v H', Same H H' → RR K H' v (f r s) → Q v H') : rOwn (He.ga K "Ratio") (sp_Ratio_op K f) x y H Q := by
  obtain ⟨p, dx, rfl, h1⟩ := id hx
  obtain ⟨p', dx', rfl, h2⟩ := id hy
  exact ⟨p, p', dx, dx', _, _, rfl, rfl, h1, h2, _, _, r, s, rfl, hx, hy, mr, ms, q⟩
end
def sp_Ratio_eq (K : PySem.W.Frag) : Sp := fun vs H Q _ => ∃ (x y : V) (r s : Rat), vs = [x, y] ∧ RR K H x r ∧ RR K H y s ∧ Q (.bl (decide (r = s))) H
section
variable {P : Program} {w : World} {K : PySem.W.Frag} {mg : Str → Option Value} {base : Heap}
theorem sc_Ratio_eq : FnScope ["self", "other"] ["self", "other"] (defScope s_Ratio_eq) := ⟨rfl, rfl, rfl, by decide +kernel, rfl, by decide +kernel, by decide +kernel⟩
theorem ok_Ratio_eq (T : Tx K mg) {fd : FuncData} (F : FnX K d_Ratio_eq fd) : FnOk P w K mg base CX0 1 (He.fAd K d_Ratio_eq.at_) fd ["self", "other"] (sp_Ratio_eq K) := by
  refine F.ok sc_Ratio_eq (fun vs H Q E h => ?_) (fun cdv A outer s H vs Q E hr h => ?_)
  · obtain ⟨x, y, r, s, rfl, _⟩ := h
    rfl
  obtain ⟨x, y, r, s, rfl, hx, hy, q⟩ := h
  refine ⟨_, PSs.nox (pss_one (ps_ret (pe_and (pe_callB (call_isiO T.cl_Ratio T.exs.2.1) (by rfl) T.f_isinstance (by decide +kernel) (pa_cons (pv 1) (pa_cons (pe_glob (v := .ref (He.ga K "Ratio")) rfl T.g_Ratio rfl) pa_nil))) (pe_and (pe_cmpR op_eq (pe_fldc T.cl_Ratio T.n_Ratio_num (pv 0)) (pe_fldc T.cl_Ratio T.n_Ratio_num (pv 1)) (nomark _)) (pe_one (pe_cmpR op_eq (pe_fldc T.cl_Ratio T.n_Ratio_den (pv 0)) (pe_fldc T.cl_Ratio T.n_Ratio_den (pv 1)) (nomark _))))))), ?_⟩
  obtain ⟨p, dx, rfl, h1⟩ := id hy
  walk_at "vc"
  refine ⟨p, dx, _, rfl, h1, ?_⟩
  walk_at "vc"
  refine ite_c (fun e1 => ?_) (fun e1 => ?_)
  · walk_at "vc"
    have e : decide (V.int (r.den : Int) = V.int (s.den : Int)) = decide (r = s) := by
      have e1 := of_decide_eq_true e1
      rw [decide_eq_decide]
      constructor
      · intro z
        injection e1 with e1
        injection z with z
        exact Rat.ext e1 (by omega)
      · intro z
        rw [z]
    show Q (.bl (decide (V.int (r.den : Int) = V.int (s.den : Int)))) H
    rw [e]
    exact q
  · have e1 := of_decide_eq_false e1
    have e : decide (r = s) = false := by
      rw [decide_eq_false_iff_not]
      intro z
      exact e1 (by rw [z])
    rw [e] at q
    exact q
theorem c_Ratio_eq (T : Tx K mg) : Cal P w K mg base 1 d_Ratio_eq ["self", "other"] [] (sp_Ratio_eq K) :=
  Cal.of T.d_Ratio_eq rfl rfl (fun _ _ _ _ _ _ us hl => match us, hl with | [_, _], _ => rfl) fun fd F => ok_Ratio_eq T F
theorem y_rne {H : Hp} {Q : VK} {x y : V} {r s : Rat} (hx : RR K H x r) (hy : RR K H y s) (q : Q (.bl (!decide (r = s))) H) : rOwnNe (He.ga K "Ratio") (sp_Ratio_eq K) x y H Q := by
  obtain ⟨p, dx, rfl, h1⟩ := id hx
  obtain ⟨p', dx', rfl, h2⟩ := id hy
  exact ⟨p, p', dx, dx', _, _, rfl, rfl, h1, h2, _, _, r, s, rfl, hx, hy, _, rfl, q⟩
/-! ### total -/
def sumR (rs : List Rat) : Rat := rs.foldl (· + ·) 0
theorem sumR_snoc (rs : List Rat) (r : Rat) : sumR (rs ++ [r]) = sumR rs + r := by unfold sumR; rw [List.foldl_append]; rfl
theorem sumR_take {rs : List Rat} {i : Nat} {r : Rat} (h : rs[i]? = some r) : sumR (rs.take (i + 1)) = sumR (rs.take i) + r := by
  rw [List.take_add_one, h]
  exact sumR_snoc _ _
abbrev RRL (K : PySem.W.Frag) (H : Hp) : List V → List Rat → Prop := Paired (RR K H)
theorem RRL.get {H : Hp} : ∀ {xs : List V} {rs : List Rat} {i : Nat} {x : V}, RRL K H xs rs → xs[i]? = some x → ∃ r, rs[i]? = some r ∧ RR K H x r
  | _, _, _, _, .nil, e => by simp at e
  | _, _, 0, _, .cons h _, e => by
    simp at e
    subst e
    exact ⟨_, rfl, h⟩
  | _, _, i + 1, _, .cons _ t, e => by
    obtain ⟨v, h1, h2⟩ := RRL.get (i := i) t (by simpa using e)
    exact ⟨v, by simpa using h1, h2⟩
theorem RRL.fz {H H' : Hp} (z : Fz K H H') {xs : List V} {rs : List Rat} (h : RRL K H xs rs) : RRL K H' xs rs := Paired.mapP h fun _ _ h => h.fz z
theorem RRL.app {H : Hp} : ∀ {xs ys : List V} {rs ss : List Rat}, RRL K H xs rs → RRL K H ys ss → RRL K H (xs ++ ys) (rs ++ ss)
  | _, _, _, _, .nil, h => h
  | _, _, _, _, .cons a t, h => .cons a (RRL.app t h)
def sp_total (K : PySem.W.Frag) : Sp := fun vs H Q _ => ∃ (a : Addr) (xs : List V) (rs : List Rat), vs = [.ref a] ∧ H a = some (.lst xs) ∧ RRL K H xs rs ∧ (∀ i, i ≤ rs.length → Sm (sumR (rs.take i))) ∧ (∀ r ∈ rs, Sm r) ∧
  ∀ v H', Same H H' → RR K H' v (sumR rs) → Q v H'
theorem sc_total : FnScope ["ratios", "result", "ratio"] ["ratios"] (defScope s_total) := ⟨rfl, rfl, rfl, by decide +kernel, rfl, by decide +kernel, by decide +kernel⟩
theorem ok_total (T : Tx K mg) {fd : FuncData} (F : FnX K d_total fd) : FnOk P w K mg base CX0 4 (He.fAd K d_total.at_) fd ["ratios"] (sp_total K) := by
  refine F.ok sc_total (fun vs H Q E h => ?_) (fun cdv A outer s H vs Q E hr h => ?_)
  · obtain ⟨a, xs, rs, rfl, _⟩ := h
    rfl
  obtain ⟨a, xs, rs, rfl, ha, hx, m1, m2, q⟩ := h
  refine ⟨_, PSs.nox (pss_cons (ps_set (i := 1) sc_total.nd rfl (Or.inl rfl) (pe_mkc (c_Ratio_init1 T) T.mk_Ratio (hr.mono (by omega)) rfl T.g_Ratio (pa_cons pe_int pa_nil)))
      (pss_cons (ps_for PassesOwn.never rfl (pi_list (pv 0)) (pg_name (i := 2) sc_total.nd rfl (Or.inl rfl)) (pss_one (ps_set (i := 1) sc_total.nd rfl (Or.inl rfl) (pe_op (op_own (c_Ratio_add T) T.m_Ratio_add T.self_Ratio (hr.mono (by omega))) (pv 1) (pv 2)))))
      (pss_one (ps_ret (pv 1))))), ?_⟩
  walk_at "vc"
  refine y_mkR' (r := 0) (by decide) (by decide) (by decide) rfl fun v H1 s1 h1 => ?_
  walk_at "vc"
  have hlen : xs.length = rs.length := Paired.length hx
  refine ⟨_, rfl, a, rfl, ⟨_, SqL.of (s1 _ _ ha)⟩, for_list (xs := xs) (fun i σ H' => Same H H' ∧ ∃ v u, σ = [some (.ref a), some v, u] ∧ RR K H' v (sumR (rs.take i))) ⟨s1, v, _, rfl, h1⟩ (fun i σ H' _ hp => SqL.of (hp.1 _ _ ha)) ?_ ?_⟩
  · rintro i x σ H' hi ⟨s2, v', u, rfl, h2⟩
    obtain ⟨r, hr1, hr2⟩ := RRL.get hx hi
    have hil : i < rs.length := (List.getElem?_eq_some_iff.mp hr1).1
    walk_at "vc"
    refine y_rop h2 (hr2.same s2) (m1 i (by omega)) (m2 r (List.mem_of_getElem? hr1)) fun v2 H2 s3 h3 => ?_
    refine ⟨s2.trans s3, v2, _, rfl, ?_⟩
    rw [sumR_take hr1]
    exact h3
  · rintro σ H' ⟨s2, v', u, rfl, h2⟩
    walk_at "vc"
    rw [hlen, List.take_length] at h2
    exact q _ _ s2 h2
theorem c_total (T : Tx K mg) : Cal P w K mg base 4 d_total ["ratios"] [] (sp_total K) :=
  Cal.of T.d_total rfl rfl (fun _ _ _ _ _ _ us hl => match us, hl with | [_], _ => rfl) fun fd F => ok_total T F
end
end Tn
set_option Elab.async false
set_option linter.all false
set_option maxRecDepth 100000
set_option maxHeartbeats 4000000
namespace Tn
open PySem PySem.Spec L2
section
variable {X : Cx}
/-- dict(t), t a tuple of pairs -/
def rDictT : List V → Hp → VK → Prop := fun xs H Q => ∃ (a : Addr) (ps : List Addr) (kvs : List (Key × V)), xs = [.ref a] ∧ TU H a (ps.map V.ref) ∧ Paired (fun p kv => TU H p [kV kv.1, kv.2]) ps kvs ∧
  ∀ p H', H p = none → Same H H' → H' p = some (.dK (mergeK [] kvs)) → Q (.ref p) H'
theorem call_dictT (hc : X.calm = true) : CallR X (.type "dict") rDictT := by
  intro pins s σ H xs us Q I r q
  obtain ⟨a, ps, kvs, rfl, ⟨o, hd0, ha⟩, hp, q⟩ := q
  obtain ⟨u, rfl, rx⟩ := vals1 r
  cases rx
  obtain ⟨prs, rel, hl, hpr⟩ := pairs_of I (Paired.mapP hp fun _ _ h => h.sq)
  obtain ⟨ho, hz, its, rv, o', ho', hcls, n, hdat⟩ := I.hok a _ ha
  rw [ho] at ho'
  cases ho'
  have ei := refs_at rv
  subst ei
  rw [List.length_map] at hz
  have hzl : prs.length ≤ sizeLine := by rw [hl]; exact hz
  let vps : List (Value × Value) := (List.range prs.length).map fun j => (match ps[j]? with
    | some b => (match s.heap.get? b with
      | some ⟨_, _, .seq items _, _⟩ => (items.getD 0 .none)
      | _ => .none)
    | none => .none, match prs[j]? with
    | some q => q.2
    | none => .none)
  have vlen : vps.length = prs.length := by simp [vps]
  have at_ : ∀ (j : Nat) (k v : Value), vps[j]? = some (k, v) → ∃ (b : Addr) (q : Key × Value), ps[j]? = some b ∧ prs[j]? = some q ∧ v = q.2 ∧ PyProof.Rows.IsTup s.heap b #[k, v] ∧ keyIs q.1 k = true := by
    intro j k v e
    have hj : j < prs.length := by
      have := (List.getElem?_eq_some_iff.mp e).1
      rw [vlen] at this
      exact this
    obtain ⟨qq, hq⟩ : ∃ qq, prs[j]? = some qq := ⟨prs[j], List.getElem?_eq_getElem hj⟩
    obtain ⟨b, u, e1, e2, e3⟩ := hpr j qq hq
    obtain ⟨ob, hob, hcb, nb, hdb⟩ := id e2
    simp only [vps, List.getElem?_map, List.getElem?_range hj, Option.map_some, Option.some.injEq, e1, hob, hq] at e
    obtain ⟨cls, dct, dat, sl⟩ := ob
    simp only at hdb
    subst hdb
    simp only [Prod.mk.injEq] at e
    obtain ⟨ek, ev⟩ := e
    have ek : u = k := by simpa using ek
    subst ek
    subst ev
    exact ⟨b, qq, e1, hq, rfl, e2, e3⟩
  have PI := PairArg.tuple (prog := X.prog) (w := X.w) a (ps.map Value.ref).toArray (fun (j : Nat) => ((ps[j]? : Option Addr)).getD 0) vps
  refine PySem.call_dict_pairs (knd := mixKind X.prog X.w) (kvs := prs) PI (I.ok.hd hc) ⟨⟨_, n, ho, hcls, hd0, hdat⟩, by simp [vlen, hl], fun j k v e => ?_⟩ ⟨vlen.symm, fun j k v e => ?_⟩ (by rw [vlen]; exact hzl) fun h' tk hd' hk => ?_
  · obtain ⟨b, q', e1, e2, e3, e4, e5⟩ := at_ j k v e
    refine ⟨by simp [e1], Or.inl ?_⟩
    show s.heap.IsTuple ((ps[j]?).getD 0) #[k, v]
    rw [e1]
    obtain ⟨ob, hob, hcb, nb, hdb⟩ := e4
    exact ⟨ob, hob, hcb, nb, hdb⟩
  · obtain ⟨b, q', e1, e2, e3, e4, e5⟩ := at_ j k v e
    obtain ⟨q1, q2⟩ := q'
    exact ⟨q1, by rw [e2, e3], e5⟩
  · have hm : (s.heap.objs.size == sysModules) = false := beq_eq_false_iff_ne.mpr (Nat.ne_of_gt I.big)
    have hlen : (mergeK [] kvs).length ≤ sizeLine := by
      refine Nat.le_trans (length_mergeK kvs []) ?_
      rw [List.length_nil, Nat.zero_add, rel.length]
      exact hzl
    have hf := I.hok.fresh (Nat.le_refl s.heap.objs.size)
    exact ⟨.ref s.heap.objs.size, upd H s.heap.objs.size (.dK (mergeK [] kvs)), I.laid (t' := tk) (fun b o e => hk b o (by simp) e) (Nat.le_refl _) (show ObjOk X.prog X.w _ _ _ (.dK (mergeK [] kvs)) from ⟨hlen, hm, merged [] prs, KV.merge rel .nil, hd'⟩), rfl, q _ _ hf (Same.new hf) upd_same⟩
/-- d.items() of a dict with int and text keys -/
def rItemsK : V → List V → Hp → VK → Prop := fun x xs H Q => ∃ (a : Addr) (kvs : List (Key × V)), x = .ref a ∧ xs = [] ∧ H a = some (.dK kvs) ∧ ∀ p H', H p = none → Same H H' → H' p = some (DX.itemsO p a) → Q (.ref p) H'
theorem mt_itemsK : MtR X "dict.items" rItemsK := by
  intro pins s σ H x xs v us Q I rx rxs h
  obtain ⟨a, kvs, rfl, rfl, ha, q⟩ := h
  cases rx
  cases rxs
  obtain ⟨z, hd, vs, rel, o, es, ep, ho, hx, hdat, _⟩ := dk_of I.hok ha
  refine DT.callItems (es := es) (ep := ep) hd ⟨o, ho, hx, hdat⟩ ?_
  have hf : H s.heap.objs.size = none := I.hok.fresh (Nat.le_refl _)
  exact ⟨.ref s.heap.objs.size, upd H s.heap.objs.size (DX.itemsO s.heap.objs.size a), I.laid (t' := s.toks) (fun b u e => Heap.get?_push_of_some _ e) (Nat.le_refl _) (DX.itemsO_ok (Heap.get?_push_size _ rfl)), rfl, q _ _ hf (Same.new hf) upd_same⟩
end
/-- the rows of a table: keys with the value 1 -/
def entK (k : Int) : Key × V := (Sum.inl k, .int 1)
def rSortItK : List V → Hp → VK → Prop := fun vs H Q => ∃ (p a : Addr) (ks : List Int), vs = [.ref p] ∧ H p = some (DX.itemsO p a) ∧ H a = some (.dK (ks.map entK)) ∧ ks.length < 64 ∧ (∀ k ∈ ks, 0 ≤ k ∧ k < 1000) ∧
  ∀ (H' : Hp) (l : Addr) (ts : List Addr) (ys : List Int), Same H H' → H l = none → ys.Perm ks → ys.Pairwise (· ≤ ·) → H' l = some (.lst (ts.map V.ref)) → Paired (fun t k => TU H' t [.int k, .int 1]) ts ys → Q (.ref l) H'
section
variable {X : Cx}
/-- tuples already laid are tracked, their objects known -/
theorem takeTU {pins : List (Addr × Obj)} {σ : L2.St} {H0 : Hp} {s : Shared} {h' : Heap} {tk : Nat} {P : Addr → List V → Prop} (I0 : Inv X pins σ H0 s) : ∀ (L : List Addr) (H1 : Hp), Inv X pins σ H1 { s with heap := h', toks := tk } → L.Nodup →
    (∀ a ∈ L, s.heap.objs.size ≤ a ∧ H1 a = none ∧ ∃ vs o, P a vs ∧ o.dict = none ∧ ∀ H2, ObjOk X.prog X.w H2 h' a (.frz o (.tup vs))) →
    ∃ H2, Inv X pins σ H2 { s with heap := h', toks := tk } ∧ (∀ b o, H1 b = some o → H2 b = some o) ∧ ∀ a ∈ L, ∃ vs, P a vs ∧ TU H2 a vs
  | [], H1, I1, _, _ => ⟨H1, I1, fun _ _ e => e, fun _ h => nomatch h⟩
  | a :: L, H1, I1, hn, h => by
    obtain ⟨hb, hnone, vs, o, hP, hd, ok⟩ := h a (List.mem_cons_self ..)
    have I2 : Inv X pins σ (upd H1 a (.frz o (.tup vs))) { s with heap := h', toks := tk } := I1.take (h' := h') (t' := tk) (fun b ob _ e => e) (I0.fpOk hb hnone) (ok _)
    rw [List.nodup_cons] at hn
    obtain ⟨H2, I3, g, q⟩ := takeTU I0 L (upd H1 a (.frz o (.tup vs))) I2 hn.2 fun c hc => by
      obtain ⟨c1, c2, c3⟩ := h c (List.mem_cons_of_mem _ hc)
      exact ⟨c1, by rw [upd_ne (fun z => hn.1 (by rw [← z]; exact hc))]; exact c2, c3⟩
    refine ⟨H2, I3, fun b o e => g b o (by rw [upd_ne (ne_of_none e hnone)]; exact e), fun c hc => ?_⟩
    rcases List.mem_cons.mp hc with rfl | hc
    · exact ⟨vs, hP, o, hd, g _ _ upd_same⟩
    · exact q c hc
theorem cr_sortedItK (hc : X.calm = true) (hu : X.A.units + 64 < cLine) : CallR X (.builtin "sorted") rSortItK := by
  intro pins s σ H xs us Q I r h
  obtain ⟨p, a, ks, rfl, hp, ha, h64, hb, q⟩ := h
  obtain rfl := Vals.ref1 r
  have view : s.heap.IsItemsView p a := (show ObjOk X.prog X.w H s.heap p (DX.itemsO p a) from I.hok p _ hp).1
  obtain ⟨z, hd, vs', rel, o, es, ep, ho, hx, hdat, hkeys, hps, hn⟩ := dk_of I.hok ha
  have l1 : (ks.map entK).length = vs'.length := Paired.length rel
  rw [List.length_map] at l1
  have l2 : es.size = vs'.length := by have := hps.length; simpa using this
  have hh : X.A.handled = none := I.ok.hd hc
  refine DT.sortedI (es := es) (ep := ep) hh view ⟨o, ho, hx, hdat⟩ (by rw [PySem.sizeLine_eq]; omega) fun h' tk as hk hlt hl hG => ?_
  have lak : as.length = ks.length := by omega
  have nd : as.Nodup := List.Pairwise.imp (fun h => Nat.ne_of_lt h) hG.rise
  have pr : ∀ (j : Nat) (b : Addr), as[j]? = some b → ∃ (k : Int) (t1 t2 : Tok), ks[j]? = some k ∧ h'.get? b = some { cls := .type "tuple", data := .seq #[Value.int k t1, Value.int 1 t2] } := by
    intro j b hj
    obtain ⟨en, he, hg⟩ := hG.pairs j b hj
    have hjs : j < es.size := by
      have := (List.getElem?_eq_some_iff.mp hj).1
      omega
    have hjk : j < ks.length := by omega
    have hkj : ks[j]? = some ks[j] := List.getElem?_eq_getElem hjk
    obtain ⟨kv, hkv⟩ : ∃ kv, vs'[j]? = some kv := ⟨vs'[j]'(by omega), List.getElem?_eq_getElem (by omega)⟩
    obtain ⟨e0, he0, r1, r2⟩ := DX.pget rel hkv
    rw [List.getElem?_map, hkj] at he0
    have ee : entK ks[j] = e0 := Option.some.inj he0
    subst ee
    obtain ⟨k1, v1⟩ := kv
    have g := hps.get? (e := en) (by simpa using he) hkv
    obtain ⟨g1, g2⟩ := g
    simp only [entK] at r1 r2
    subst r1
    have g1 : keyIs (Sum.inl ks[j]) en.key = true := g1
    rcases keyIs_shape g1 with ⟨i, t, e1, e2⟩ | ⟨x, t, e1, e2⟩
    · cases e1
      obtain ⟨t2, e3⟩ := r2
      refine ⟨ks[j], t, t2, hkj, ?_⟩
      rw [hg, e2, g2, e3]
    · cases e1
  have hob : (h'.push { cls := .type "list", data := .seq (as.map Value.ref).toArray }).get? h'.objs.size = some (PyProof.Rows.seqObj "list" (as.map Value.ref).toArray 0) := Heap.get?_push_size _ rfl
  have kb : ∀ b o, s.heap.get? b = some o → (h'.push { cls := .type "list", data := .seq (as.map Value.ref).toArray }).get? b = some o := fun b o e => Heap.get?_push_of_some _ (hk b o e)
  have ne0 : ∀ b o, h'.get? b = some o → b ≠ h'.objs.size := fun b o e => Nat.ne_of_lt (Heap.lt_size e)
  generalize hh2 : h'.push { cls := .type "list", data := .seq (as.map Value.ref).toArray } = h2 at hob kb ⊢
  have ka : ∀ b o, h'.get? b = some o → h2.get? b = some o := fun b o e => by rw [← hh2]; exact Heap.get?_push_of_some _ e
  have ok : ∀ (j : Nat) (b : Addr) (k : Int), as[j]? = some b → ks[j]? = some k → TS.TupInts (TS.midHeap h2 h'.objs.size (as.map Value.ref)) (.ref b) [k, 1] := by
    intro j b k hj hk'
    obtain ⟨k2, t1, t2, e1, e2⟩ := pr j b hj
    rw [hk'] at e1
    cases e1
    exact ⟨b, #[Value.int k t1, Value.int 1 t2], rfl, ⟨_, TS.midHeap_old (ne0 _ _ e2) (ka _ _ e2), rfl, 0, rfl⟩, .cons _ _ (.cons _ _ .nil)⟩
  have at_ : ∀ v ∈ as.map Value.ref, ∃ (j : Nat) (b : Addr) (k : Int), v = .ref b ∧ as[j]? = some b ∧ ks[j]? = some k := by
    intro v hv'
    obtain ⟨b, hb', rfl⟩ := List.mem_map.mp hv'
    obtain ⟨j, hj⟩ := List.mem_iff_getElem?.mp hb'
    obtain ⟨k, _, _, he, _⟩ := pr j b hj
    exact ⟨j, b, k, rfl, hj, he⟩
  have bd : ∀ k ∈ ks, TS.Bd 1000 [k, 1] := by
    intro k hk' m hm
    have := hb k hk'
    simp at hm
    rcases hm with rfl | rfl <;> omega
  have tups : TS.TupsOk (TS.midHeap h2 h'.objs.size (as.map Value.ref)) 2 1000 (as.map Value.ref) := by
    intro u hu'
    obtain ⟨j, b, k, rfl, hj, he⟩ := at_ u hu'
    exact ⟨_, ok j b k hj he, rfl, bd k (List.mem_of_getElem? he)⟩
  refine wpAny_call_entry PyProof.Rows.slot_list_sort ⟨_, hob, rfl⟩ PyProof.Rows.entry_list_sort
    (SK.plain_sort (s := { s with heap := h2, toks := tk }) (r := fun v => TS.code 1000 (TS.intsOf (TS.midHeap h2 h'.objs.size (as.map Value.ref)) v)) hob (by rw [List.length_map]; omega) (fun h2' Qk hQk => ?_) fun ps out o1 o2 o3 => ⟨.none, rfl, ?_⟩) (PyProof.Rows.args_list_sort _)
  · exact TS.kind_tups (s := { s with heap := TS.midHeap h2 h'.objs.size (as.map Value.ref), toks := tk }) (d := 2) (B := 1000) (by decide) h2' tups (fun v => TS.code 1000 (TS.intsOf (TS.midHeap h2 h'.objs.size (as.map Value.ref)) v)) (fun v _ ns hv => congrArg (TS.code 1000) hv.ints) Qk hQk
  · show EP X pins σ Q (.ref h'.objs.size) { s with heap := PyProof.Rows.sortedHeap h2 h'.objs.size (as.map Value.ref) out, toks := tk }
    obtain ⟨zs, pz, ez⟩ := perm_lift (fun z : Addr × Int => (Value.ref z.1, Value.ref z.1)) o2 (as.zip ks) (DX.zip_self Value.ref as ks lak)
    have idx : ∀ z ∈ zs, ∃ j : Nat, as[j]? = some z.1 ∧ ks[j]? = some z.2 := by
      intro z' hz'
      obtain ⟨j, hj⟩ := List.mem_iff_getElem?.mp (pz.mem_iff.mp hz')
      exact ⟨j, List.getElem?_zip_eq_some.mp hj⟩
    have hout : out.toList = zs.map fun z => Value.ref z.1 := by
      rw [o1, ← ez, List.map_map]
      all_goals rfl
    have hperm : (zs.map (·.2)).Perm ks := by
      have e := pz.map (·.2)
      have m2 : (as.zip ks).map (·.2) = ks := List.map_snd_zip (by rw [lak]; exact Nat.le_refl _)
      rw [m2] at e
      exact e
    have hsort : (zs.map (·.2)).Pairwise (· ≤ ·) := by
      rw [← ez, List.pairwise_map] at o3
      rw [List.pairwise_map]
      refine List.Pairwise.imp_of_mem (fun {x y} hx hy h => ?_) o3
      obtain ⟨j, j1, j2⟩ := idx x hx
      obtain ⟨i, i1, i2⟩ := idx y hy
      have h' : TS.code 1000 (TS.intsOf (TS.midHeap h2 h'.objs.size (as.map Value.ref)) (.ref x.1)) ≤ TS.code 1000 (TS.intsOf (TS.midHeap h2 h'.objs.size (as.map Value.ref)) (.ref y.1)) := h
      rw [(ok j _ _ j1 j2).ints, (ok i _ _ i1 i2).ints] at h'
      rcases code_lex (bd _ (List.mem_of_getElem? j2)) (bd _ (List.mem_of_getElem? i2)) h' with h | h
      · omega
      · omega
    have kF : ∀ b o, b ≠ h'.objs.size → h2.get? b = some o → (PyProof.Rows.sortedHeap h2 h'.objs.size (as.map Value.ref) out).get? b = some o := fun b o hb e => (PyProof.Rows.sortedHeap_old hb (Heap.lt_size e)).trans e
    have kS : ∀ b o, s.heap.get? b = some o → (PyProof.Rows.sortedHeap h2 h'.objs.size (as.map Value.ref) out).get? b = some o := fun b o e => kF b o (ne0 _ _ (hk b o e)) (kb b o e)
    obtain ⟨eF, heF⟩ := PyProof.Rows.sortedHeap_at (vs := as.map Value.ref) (out := out) hob
    have I1 : Inv X pins σ H { s with heap := PyProof.Rows.sortedHeap h2 h'.objs.size (as.map Value.ref) out, toks := tk } := I.kept (t' := tk) kS
    have hn0 : H h'.objs.size = none := I.hok.fresh (Nat.le_of_lt hlt)
    have hlen : (zs.map fun z => V.ref z.1).length ≤ sizeLine := by
      have e := hperm.length_eq
      rw [List.length_map] at e
      rw [List.length_map, PySem.sizeLine_eq]
      omega
    have rv : Vals (zs.map fun z => V.ref z.1) out.toList := by
      rw [hout]
      exact vals_maps (fun z : Addr × Int => V.ref z.1) (fun z => Value.ref z.1) zs fun _ _ => rfl
    have I2 : Inv X pins σ (upd H h'.objs.size (.lst (zs.map fun z => V.ref z.1))) { s with heap := PyProof.Rows.sortedHeap h2 h'.objs.size (as.map Value.ref) out, toks := tk } :=
      I1.take (h' := PyProof.Rows.sortedHeap h2 h'.objs.size (as.map Value.ref) out) (t' := tk) (fun b ob _ e => e) (I.fpOk (Nat.le_of_lt hlt) hn0) ⟨hlen, out.toList, eF, rv, heF⟩
    obtain ⟨H2, I3, g, qt⟩ := takeTU (P := fun b vs => ∃ (j : Nat) (k : Int), as[j]? = some b ∧ ks[j]? = some k ∧ vs = [.int k, .int 1]) I as _ I2 nd fun b hb' => by
      obtain ⟨j, hj⟩ := List.mem_iff_getElem?.mp hb'
      obtain ⟨k, t1, t2, he, hg⟩ := pr j b hj
      have hbl : s.heap.objs.size ≤ b := Nat.le_of_lt (hG.above b hb')
      refine ⟨hbl, ?_, [.int k, .int 1], _, ⟨j, k, hj, he, rfl⟩, rfl, fun H3 => ⟨kF _ _ (ne0 _ _ hg) (ka _ _ hg), (by rw [PySem.sizeLine_eq]; show 2 ≤ 16777216; omega), [Value.int k t1, Value.int 1 t2], .cons ⟨t1, rfl⟩ (.cons ⟨t2, rfl⟩ .nil), ⟨_, kF _ _ (ne0 _ _ hg) (ka _ _ hg), rfl, 0, rfl⟩⟩⟩
      rw [upd_ne (ne0 _ _ hg)]
      exact I.hok.fresh hbl
    have gr : Same H H2 := fun b o e => g b o (by rw [upd_ne (ne_of_none e hn0)]; exact e)
    have em : (zs.map fun z => V.ref z.1) = (zs.map (·.1)).map V.ref := by rw [List.map_map]; rfl
    refine ⟨.ref h'.objs.size, H2, I3, rfl, q H2 h'.objs.size (zs.map (·.1)) (zs.map (·.2)) gr hn0 hperm hsort (by rw [← em]; exact g _ _ upd_same) ?_⟩
    have all : ∀ (l : List (Addr × Int)), (∀ z ∈ l, z ∈ zs) → Paired (fun t k => TU H2 t [.int k, .int 1]) (l.map (·.1)) (l.map (·.2)) := by
      intro l
      induction l with
      | nil => intro _; exact .nil
      | cons z l ih =>
        intro hz
        refine .cons ?_ (ih fun y hy => hz y (List.mem_cons_of_mem _ hy))
        obtain ⟨i, i1, i2⟩ := idx z (hz z (List.mem_cons_self ..))
        obtain ⟨vs, ⟨j, k, j1, j2, ev⟩, hH⟩ := qt z.1 (List.mem_of_getElem? i1)
        have eij : i = j := (List.getElem?_inj (List.getElem?_eq_some_iff.mp i1).1 nd).mp (i1.trans j1.symm)
        subst eij
        have ee : k = z.2 := Option.some.inj (j2.symm.trans i2)
        rw [ev, ee] at hH
        exact hH
    exact all zs fun _ h => h
end
end Tn
set_option Elab.async false
set_option linter.all false
set_option maxRecDepth 100000
set_option maxHeartbeats 4000000
namespace Tn
open PySem PySem.Spec L2
/-! ### loops -/
/-- a for over a tuple, over a list, behind what is walked -/
def rForT (K : PySem.W.Frag) (g : TG) (tb : TS) (D : Ends) (σ : L2.St) (x : V) (H1 : Hp) : Prop := ∃ a, x = .ref a ∧ (∃ xs, SqT K H1 a xs) ∧ ∃ W : Nat → Nat → L2.St → Hp → Prop, (∃ m, W 0 m σ H1) ∧ ∀ i m σ H, W i m σ H →
  ((Itt K a).stop i H ∧ D.nx σ H) ∨ ((Itt K a).go i H ∧ ∃ N : L2.St → Hp → Prop, (∀ σ' H', N σ' H' → ∃ m', m' < m ∧ W (i + 1) m' σ' H') ∧ ∀ x H', (Itt K a).yld i H x H' → g x σ H' fun σ2 H2 => tb { D with nx := N, ct := N, bk := D.nx } σ2 H2)
def rForL (K : PySem.W.Frag) (g : TG) (tb : TS) (D : Ends) (σ : L2.St) (x : V) (H1 : Hp) : Prop := ∃ a, x = .ref a ∧ (∃ xs, SqL K H1 a xs) ∧ ∃ W : Nat → Nat → L2.St → Hp → Prop, (∃ m, W 0 m σ H1) ∧ ∀ i m σ H, W i m σ H →
  ((Itl K a).stop i H ∧ D.nx σ H) ∨ ((Itl K a).go i H ∧ ∃ N : L2.St → Hp → Prop, (∀ σ' H', N σ' H' → ∃ m', m' < m ∧ W (i + 1) m' σ' H') ∧ ∀ x H', (Itl K a).yld i H x H' → g x σ H' fun σ2 H2 => tb { D with nx := N, ct := N, bk := D.nx } σ2 H2)
section
variable {K : PySem.W.Frag} {σ : L2.St} {H : Hp} {Q : VK} {D : Ends} {te t0 : TE} {tb : TS} {g : TG} {tt : TT} {vs : List Nat}
theorem x_forT (q : te σ H fun x H1 => rForT K g tb D σ x H1) : tFor (iTup K te) g tb D σ H := q
theorem x_forL (q : te σ H fun x H1 => rForL K g tb D σ x H1) : tFor (iList K te) g tb D σ H := q
theorem y_forT {a : Addr} {xs : List V} (h : TU H a xs) (Pv : Nat → L2.St → Hp → Prop) (h0 : Pv 0 σ H) (hl : ∀ i σ' H', i ≤ xs.length → Pv i σ' H' → TU H' a xs)
    (hs : ∀ i x σ' H', xs[i]? = some x → Pv i σ' H' → g x σ' H' fun σ2 H2 => tb { D with nx := Pv (i + 1), ct := Pv (i + 1), bk := D.nx } σ2 H2) (hd : ∀ σ' H', Pv xs.length σ' H' → D.nx σ' H') : rForT K g tb D σ (.ref a) H :=
  ⟨a, rfl, ⟨xs, h.sq⟩, for_tup (xs := xs) Pv h0 (fun i σ H hi hp => (hl i σ H hi hp).sq) hs hd⟩
theorem y_forR {x : V} {ds : List PyData} (h : Rp H x (.tuple ds)) (Pv : Nat → L2.St → Hp → Prop) (h0 : Pv 0 σ H) (hl : ∀ i σ' H', Pv i σ' H' → Fz K H H')
    (hs : ∀ i d v σ' H', ds[i]? = some d → Rp H' v d → Pv i σ' H' → g v σ' H' fun σ2 H2 => tb { D with nx := Pv (i + 1), ct := Pv (i + 1), bk := D.nx } σ2 H2) (hd : ∀ σ' H', Pv ds.length σ' H' → D.nx σ' H') : rForT K g tb D σ x H := by
  obtain ⟨a, xs, rfl, hp, hx⟩ := h.t_
  refine y_forT hp Pv h0 (fun i σ' H' _ p => hp.fz (hl i σ' H' p)) (fun i x σ' H' e p => ?_) (fun σ' H' p => hd σ' H' (hx.len ▸ p))
  obtain ⟨d, h1, h2⟩ := hx.get' e
  exact hs i d x σ' H' h1 (h2.fz (hl i σ' H' p)) p
theorem y_forL {a : Addr} {xs : List V} (h : H a = some (.lst xs)) (Pv : Nat → L2.St → Hp → Prop) (h0 : Pv 0 σ H) (hl : ∀ i σ' H', i ≤ xs.length → Pv i σ' H' → H' a = some (.lst xs))
    (hs : ∀ i x σ' H', xs[i]? = some x → Pv i σ' H' → g x σ' H' fun σ2 H2 => tb { D with nx := Pv (i + 1), ct := Pv (i + 1), bk := D.nx } σ2 H2) (hd : ∀ σ' H', Pv xs.length σ' H' → D.nx σ' H') : rForL K g tb D σ (.ref a) H :=
  ⟨a, rfl, ⟨xs, SqL.of h⟩, for_list (xs := xs) Pv h0 (fun i σ H hi hp => SqL.of (hl i σ H hi hp)) hs hd⟩
theorem y_forI {n : Int} (h0' : 0 ≤ n) (h1 : n ≤ 100000) (Pv : Nat → L2.St → Hp → Prop) (h0 : Pv 0 σ H)
    (hs : ∀ (i : Nat) σ' H', (i : Int) < n → Pv i σ' H' → g (.int (i : Int)) σ' H' fun σ2 H2 => tb { D with nx := Pv (i + 1), ct := Pv (i + 1), bk := D.nx } σ2 H2) (hd : ∀ σ' H', Pv n.toNat σ' H' → D.nx σ' H') {ta : TA} (ha : ∀ Q, Q [.int n] H → ta σ H Q) : tFor (iRng1 ta) g tb D σ H :=
  ha _ ⟨n, rfl, by omega, by omega, for_range (lo := 0) (n := n.toNat) Pv h0 (fun i σ' H' hi p => by
    have e0 : (0 : Int) + (i : Int) = (i : Int) := Int.zero_add _
    rw [e0]
    exact hs i σ' H' (by omega) p) hd⟩
/-! ### list comprehensions -/
def rLcT (K : PySem.W.Frag) (g : TG) (tt : TT) (te : TE) (vs : List Nat) (σ : L2.St) (x : V) (H1 : Hp) (Q : VK) : Prop := ∃ a, x = .ref a ∧ (∃ xs, SqT K H1 a xs) ∧ ∀ D, H1 D = none → ∃ W : Nat → Nat → Hp → Prop, (∃ m, W 0 m (upd H1 D (.lst []))) ∧ ∀ i m H, W i m H →
  ((Itt K a).stop i H ∧ Q (.ref D) H) ∨ ((Itt K a).go i H ∧ ∃ Nx : Hp → Prop, (∀ H', Nx H' → ∃ m', m' < m ∧ W (i + 1) m' H') ∧ ∀ x H', (Itt K a).yld i H x H' → g x (wipe σ vs) H' fun σ2 H2 => wipe σ2 vs = wipe σ vs ∧ tt σ2 H2 fun b H3 =>
    if b = true then te σ2 H3 fun y H4 => ∃ acc, H4 D = some (.lst acc) ∧ acc.length < sizeLine ∧ Nx (upd H4 D (.lst (acc ++ [y]))) else Nx H3)
def rLcL (K : PySem.W.Frag) (g : TG) (tt : TT) (te : TE) (vs : List Nat) (σ : L2.St) (x : V) (H1 : Hp) (Q : VK) : Prop := ∃ a, x = .ref a ∧ (∃ xs, SqL K H1 a xs) ∧ ∀ D, H1 D = none → ∃ W : Nat → Nat → Hp → Prop, (∃ m, W 0 m (upd H1 D (.lst []))) ∧ ∀ i m H, W i m H →
  ((Itl K a).stop i H ∧ Q (.ref D) H) ∨ ((Itl K a).go i H ∧ ∃ Nx : Hp → Prop, (∀ H', Nx H' → ∃ m', m' < m ∧ W (i + 1) m' H') ∧ ∀ x H', (Itl K a).yld i H x H' → g x (wipe σ vs) H' fun σ2 H2 => wipe σ2 vs = wipe σ vs ∧ tt σ2 H2 fun b H3 =>
    if b = true then te σ2 H3 fun y H4 => ∃ acc, H4 D = some (.lst acc) ∧ acc.length < sizeLine ∧ Nx (upd H4 D (.lst (acc ++ [y]))) else Nx H3)
theorem x_lcT (q : t0 σ H fun x H1 => rLcT K g tt te vs σ x H1 Q) : tLc (iTup K t0) g tt te vs σ H Q := q
theorem x_lcL (q : t0 σ H fun x H1 => rLcL K g tt te vs σ x H1 Q) : tLc (iList K t0) g tt te vs σ H Q := q
/-- what the list so far holds -/
def LcP (R : Addr → Nat → V → Hp → Prop) (H : Hp) (D : Addr) (i : Nat) (H' : Hp) : Prop := Same H H' ∧ ∃ acc, H' D = some (.lst acc) ∧ acc.length = i ∧ ∀ j y, acc[j]? = some y → R D j y H'
theorem lcp_step {R : Addr → Nat → V → Hp → Prop} (mono : ∀ D ys i v H H', H D = some (.lst ys) → But D H H' → R D i v H → R D i v H') {D : Addr} {i : Nat} {H0 H1 H2 : Hp} {y : V} (hD : H0 D = none) (p : LcP R H0 D i H1) (hi : i < 1000) (s : Same H1 H2) (r : R D i y H2) :
    ∃ acc, H2 D = some (.lst acc) ∧ acc.length < sizeLine ∧ LcP R H0 D (i + 1) (upd H2 D (.lst (acc ++ [y]))) := by
  obtain ⟨s0, acc, ha, hl, hr⟩ := p
  refine ⟨acc, s _ _ ha, small1000 (by omega), Same.but (Same.trans s0 s) hD But.upd, acc ++ [y], upd_same, by rw [List.length_append, hl]; rfl, fun j z e => ?_⟩
  have ha2 := s _ _ ha
  by_cases hj : j < acc.length
  · rw [List.getElem?_append_left hj] at e
    exact mono D acc j z _ _ ha2 But.upd (mono D acc j z _ _ ha (fun a o _ e => s a o e) (hr j z e))
  · rw [List.getElem?_append_right (by omega)] at e
    have : j - acc.length = 0 := by
      cases h : j - acc.length with
      | zero => rfl
      | succ k =>
        rw [h] at e
        simp at e
    rw [this] at e
    have e : y = z := by simpa using e
    have ej : j = i := by omega
    rw [← e, ej]
    exact mono D acc i y _ _ ha2 But.upd r
theorem lcp_zero {R : Addr → Nat → V → Hp → Prop} {D : Addr} (hD : H D = none) : LcP R H D 0 (upd H D (.lst [])) := ⟨Same.new hD, [], upd_same, rfl, fun j y e => by simp at e⟩
/-- a map over a tuple -/
theorem y_lcT {a : Addr} {xs : List V} (R : Addr → Nat → V → Hp → Prop) (mono : ∀ D ys i v H H', H D = some (.lst ys) → But D H H' → R D i v H → R D i v H') (h : TU H a xs) (hl : xs.length ≤ 1000)
    (hs : ∀ D i x H' acc, xs[i]? = some x → H D = none → Same H H' → H' D = some (.lst acc) → ∀ Q' : VK, (∀ y H3, Same H' H3 → R D i y H3 → Q' y H3) → g x (wipe σ vs) H' fun σ2 H2 => wipe σ2 vs = wipe σ vs ∧ te σ2 H2 Q')
    (mg : ∀ x σ H (Q Q' : L2.St → Hp → Prop), (∀ s h, Q s h → Q' s h) → g x σ H Q → g x σ H Q')
    (q : ∀ D H' acc, H D = none → Same H H' → H' D = some (.lst acc) → acc.length = xs.length → (∀ i y, acc[i]? = some y → R D i y H') → Q (.ref D) H') : rLcT K g tYes te vs σ (.ref a) H Q := by
  refine ⟨a, rfl, ⟨xs, h.sq⟩, fun D hD => lc_tup (xs := xs) (LcP R H D) (lcp_zero hD) (fun i H' _ p => (h.same p.1).sq) (fun i x H' e p => ?_) (fun H' p => ?_)⟩
  · have hi : i < xs.length := (List.getElem?_eq_some_iff.mp e).1
    obtain ⟨s0, acc, ha, _, _⟩ := id p
    refine mg _ _ _ _ _ (fun s h z => ?_) (hs D i x H' acc e hD s0 ha _ fun y H3 s3 r => lcp_step mono hD p (by omega) s3 r)
    exact ⟨z.1, by unfold tYes; dsimp only; rw [if_pos rfl]; exact z.2⟩
  · obtain ⟨s0, acc, ha, hl, hr⟩ := p
    exact q D H' acc hD s0 ha hl hr
theorem y_lcL {a : Addr} {xs : List V} (R : Addr → Nat → V → Hp → Prop) (mono : ∀ D ys i v H H', H D = some (.lst ys) → But D H H' → R D i v H → R D i v H') (h : H a = some (.lst xs)) (hl : xs.length ≤ 1000)
    (hs : ∀ D i x H' acc, xs[i]? = some x → H D = none → Same H H' → H' D = some (.lst acc) → ∀ Q' : VK, (∀ y H3, Same H' H3 → R D i y H3 → Q' y H3) → g x (wipe σ vs) H' fun σ2 H2 => wipe σ2 vs = wipe σ vs ∧ te σ2 H2 Q')
    (mg : ∀ x σ H (Q Q' : L2.St → Hp → Prop), (∀ s h, Q s h → Q' s h) → g x σ H Q → g x σ H Q')
    (q : ∀ D H' acc, H D = none → Same H H' → H' D = some (.lst acc) → acc.length = xs.length → (∀ i y, acc[i]? = some y → R D i y H') → Q (.ref D) H') : rLcL K g tYes te vs σ (.ref a) H Q := by
  refine ⟨a, rfl, ⟨xs, SqL.of h⟩, fun D hD => lc_list (xs := xs) (LcP R H D) (lcp_zero hD) (fun i H' _ p => SqL.of (p.1 _ _ h)) (fun i x H' e p => ?_) (fun H' p => ?_)⟩
  · have hi : i < xs.length := (List.getElem?_eq_some_iff.mp e).1
    obtain ⟨s0, acc, ha, _, _⟩ := id p
    refine mg _ _ _ _ _ (fun s h z => ?_) (hs D i x H' acc e hD s0 ha _ fun y H3 s3 r => lcp_step mono hD p (by omega) s3 r)
    exact ⟨z.1, by unfold tYes; dsimp only; rw [if_pos rfl]; exact z.2⟩
  · obtain ⟨s0, acc, ha, hl, hr⟩ := p
    exact q D H' acc hD s0 ha hl hr
theorem y_lcI {n : Nat} {ta : TA} (R : Addr → Nat → V → Hp → Prop) (mono : ∀ D ys i v H H', H D = some (.lst ys) → But D H H' → R D i v H → R D i v H') (hl : n ≤ 1000) (ha : ∀ Q, Q [.int (n : Int)] H → ta σ H Q)
    (hs : ∀ D i H' acc, i < n → H D = none → Same H H' → H' D = some (.lst acc) → ∀ Q' : VK, (∀ y H3, Same H' H3 → R D i y H3 → Q' y H3) → g (.int (i : Int)) (wipe σ vs) H' fun σ2 H2 => wipe σ2 vs = wipe σ vs ∧ te σ2 H2 Q')
    (mg : ∀ x σ H (Q Q' : L2.St → Hp → Prop), (∀ s h, Q s h → Q' s h) → g x σ H Q → g x σ H Q')
    (q : ∀ D H' acc, H D = none → Same H H' → H' D = some (.lst acc) → acc.length = n → (∀ i y, acc[i]? = some y → R D i y H') → Q (.ref D) H') : tLc (iRng1 ta) g tYes te vs σ H Q := by
  refine ha _ ⟨n, rfl, by omega, by omega, fun D hD => lc_range (lo := 0) (n := n) (LcP R H D) (lcp_zero hD) (fun i H' hi p => ?_) (fun H' p => ?_)⟩
  · obtain ⟨s0, acc, ha, _, _⟩ := id p
    have e0 : (0 : Int) + (i : Int) = (i : Int) := Int.zero_add _
    rw [e0]
    refine mg _ _ _ _ _ (fun s h z => ?_) (hs D i H' acc hi hD s0 ha _ fun y H3 s3 r => lcp_step mono hD p (by omega) s3 r)
    exact ⟨z.1, by unfold tYes; dsimp only; rw [if_pos rfl]; exact z.2⟩
  · obtain ⟨s0, acc, ha, hl, hr⟩ := p
    exact q D H' acc hD s0 ha hl hr
theorem mg_name {i : Nat} : ∀ x σ H (Q Q' : L2.St → Hp → Prop), (∀ s h, Q s h → Q' s h) → gName i x σ H Q → gName i x σ H Q' := fun _ _ _ _ _ m q => m _ _ q
theorem mg_nil : ∀ xs σ H (Q Q' : L2.St → Hp → Prop), (∀ s h, Q s h → Q' s h) → gNil xs σ H Q → gNil xs σ H Q' := fun _ _ _ _ _ m ⟨e, q⟩ => ⟨e, m _ _ q⟩
theorem mg_cons {t : TG} {u : TGs} (h1 : ∀ x σ H (Q Q' : L2.St → Hp → Prop), (∀ s h, Q s h → Q' s h) → t x σ H Q → t x σ H Q') (h2 : ∀ x σ H (Q Q' : L2.St → Hp → Prop), (∀ s h, Q s h → Q' s h) → u x σ H Q → u x σ H Q') :
    ∀ xs σ H (Q Q' : L2.St → Hp → Prop), (∀ s h, Q s h → Q' s h) → gCons t u xs σ H Q → gCons t u xs σ H Q' := fun _ _ _ _ _ m ⟨v, r, e, q⟩ => ⟨v, r, e, h1 _ _ _ _ _ (fun _ _ z => h2 _ _ _ _ _ m z) q⟩
theorem mg_tup {n : Nat} {t : TGs} (h : ∀ x σ H (Q Q' : L2.St → Hp → Prop), (∀ s h, Q s h → Q' s h) → t x σ H Q → t x σ H Q') : ∀ x σ H (Q Q' : L2.St → Hp → Prop), (∀ s h, Q s h → Q' s h) → gTup K n t x σ H Q → gTup K n t x σ H Q' :=
  fun _ _ _ _ _ m ⟨a, xs, e, s, l, q⟩ => ⟨a, xs, e, s, l, h _ _ _ _ _ m q⟩
end
end Tn
set_option Elab.async false
set_option linter.all false
set_option maxRecDepth 100000
set_option maxHeartbeats 4000000
namespace Tn
open PySem PySem.Spec L2
/-! ### the game, as data -/
abbrev eA : PyData := .tuple [.str "local", .str "a"]
abbrev eNum (i : Int) : PyData := .tuple [.str "number", .int i]
abbrev sDraw (n : Nat) : PyData := .tuple [.str "draw", .str "a", .int n]
abbrev eHas : PyData := .tuple [.str "has", .str "t", eA]
abbrev sBad : PyData := .tuple [.str "bad"]
abbrev sIf : PyData := .tuple [.str "if", eHas, .tuple [sBad], .tuple []]
abbrev sPut : PyData := .tuple [.str "put", .str "t", eA, eNum 1]
abbrev ePlus (s : Nat) : PyData := .tuple [.str "+", eA, eNum s]
abbrev eShift (n s : Nat) : PyData := .tuple [.str "mod", ePlus s, eNum n]
abbrev sLet (n s : Nat) : PyData := .tuple [.str "let", .str "a", eShift n s]
abbrev sAfter (n s : Nat) : PyData := .tuple [.str "after", .tuple [sLet n s]]
abbrev gBlock (n s : Nat) : PyData := .tuple [sDraw n, sIf, sPut, sAfter n s]
abbrev gProc (n s : Nat) : PyData := .tuple [.str "p", .int 1, .int n, .tuple [.str "g", .str "a"], gBlock n s, eA]
abbrev gProcs (n s : Nat) : PyData := .tuple [gProc n s]
abbrev gTab (n : Nat) : PyData := .tuple [.str "t", .int n, .int 2]
abbrev gTabs (n : Nat) : PyData := .tuple [gTab n]
abbrev gNone : PyData := .tuple []
/-- v is the game -/
def GM (K : PySem.W.Frag) (H : Hp) (v : V) (n s : Nat) : Prop := ∃ g dx a b c d, v = .ref g ∧ H g = some (.ins (He.ga K "Game") dx [("variables", a), ("tables", b), ("lots", c), ("procs", d)]) ∧ Rp H a gNone ∧ Rp H b (gTabs n) ∧ Rp H c gNone ∧ Rp H d (gProcs n s)
section
variable {K : PySem.W.Frag} {H H' : Hp} {Q : VK} {x : V} {n s : Nat}
theorem GM.fz (z : Fz K H H') (h : GM K H x n s) : GM K H' x n s := by
  obtain ⟨g, dx, a, b, c, d, e, hg, ha, hb, hc, hd⟩ := h
  exact ⟨g, dx, a, b, c, d, e, z _ _ (Or.inr (Or.inl rfl)) hg, ha.fz z, hb.fz z, hc.fz z, hd.fz z⟩
theorem GM.same (s : Same H H') {n s : Nat} (h : GM K H x n s) : GM K H' x n s := h.fz (Fz.same (by assumption))
theorem y_gvar (h : GM K H x n s) (q : ∀ u, Rp H u gNone → Q u H) : rFldC (He.ga K "Game") "variables" x H Q := by
  obtain ⟨g, dx, a, b, c, d, rfl, hg, ha, hb, hc, hd⟩ := h
  exact ⟨g, dx, _, a, rfl, hg, rfl, q a ha⟩
theorem y_gtab (h : GM K H x n s) (q : ∀ u, Rp H u (gTabs n) → Q u H) : rFldC (He.ga K "Game") "tables" x H Q := by
  obtain ⟨g, dx, a, b, c, d, rfl, hg, ha, hb, hc, hd⟩ := h
  exact ⟨g, dx, _, b, rfl, hg, rfl, q b hb⟩
theorem y_glot (h : GM K H x n s) (q : ∀ u, Rp H u gNone → Q u H) : rFldC (He.ga K "Game") "lots" x H Q := by
  obtain ⟨g, dx, a, b, c, d, rfl, hg, ha, hb, hc, hd⟩ := h
  exact ⟨g, dx, _, c, rfl, hg, rfl, q c hc⟩
theorem y_gproc (h : GM K H x n s) (q : ∀ u, Rp H u (gProcs n s) → Q u H) : rFldC (He.ga K "Game") "procs" x H Q := by
  obtain ⟨g, dx, a, b, c, d, rfl, hg, ha, hb, hc, hd⟩ := h
  exact ⟨g, dx, _, d, rfl, hg, rfl, q d hd⟩
theorem RpL.of : ∀ {vs : List V} {ds : List PyData}, vs.length = ds.length → (∀ (i : Nat) v d, vs[i]? = some v → ds[i]? = some d → Rp H v d) → RpL H vs ds
  | [], [], _, _ => .nil
  | [], _ :: _, h, _ => by simp at h
  | _ :: _, [], h, _ => by simp at h
  | v :: vs, d :: ds, h, f => .cons (f 0 v d rfl rfl) (RpL.of (by simpa using h) fun i v' d' a b => f (i + 1) v' d' (by simpa using a) (by simpa using b))
/-- a comprehension's list, all of one kind -/
theorem RpL.all {vs : List V} {d : PyData} {k : Nat} (hl : vs.length = k) (f : ∀ (i : Nat) v, vs[i]? = some v → Rp H v d) : RpL H vs (List.replicate k d) :=
  RpL.of (by rw [List.length_replicate, hl]) fun i v d' a b => by
    rw [List.getElem?_replicate] at b
    split at b
    · cases b
      exact f i v a
    · cases b
end
local macro_rules | `(tactic| walk_at "tz") => `(tactic| first
  | ((refine' Tz.same ?s); (case s => with_reducible assumption))
  | ((refine' Tz.but ?b ?h ?n); (case b => with_reducible assumption); (case h => walk_at "look"); (case n => (intro o v z; cases z))))
local macro_rules | `(tactic| walk_at "fz") => `(tactic| first
  | ((refine' Fz.same ?s); (case s => with_reducible assumption))
  | ((refine' Fz.but ?b ?h ?n); (case b => with_reducible assumption); (case h => walk_at "look"); (case n => first | exact nf_lst | exact nf_dK | exact nf_ext | assumption)))
local macro_rules | `(tactic| walk_at "look") => `(tactic| first
  | with_reducible assumption
  | ((with_reducible refine' Same.app ?s ?m); (case s => with_reducible assumption); (case m => walk_at "look"))
  | ((with_reducible refine' RR.fz ?z ?m); (case z => walk_at "fz"); (case m => walk_at "look"))
  | ((with_reducible refine' Rp.tz ?z ?m); (case z => walk_at "tz"); (case m => walk_at "look"))
  | ((with_reducible refine' TU.tz ?z ?m); (case z => walk_at "tz"); (case m => walk_at "look"))
  | ((with_reducible refine' RpL.tz ?z ?m); (case z => walk_at "tz"); (case m => walk_at "look"))
  | ((with_reducible refine' GM.fz ?z ?m); (case z => walk_at "fz"); (case m => walk_at "look"))
  | ((with_reducible refine' But.app' ?b ?n ?m); (case b => with_reducible assumption); (case n => first | assumption | (refine Ne.symm ?_; assumption)); (case m => walk_at "look"))
  | ((with_reducible refine' But.app ?b ?l ?d ?m); (case b => with_reducible assumption); (case m => walk_at "look"); (case l => walk_at "look"); (case d => (intro z; cases z))))
local macro_rules | `(tactic| walk_at "rp") => `(tactic| first
  | (with_reducible assumption)
  | walk_at "look"
  | exact Rp.bl _ | exact Rp.int _ | exact Rp.str _ | exact Rp.non
  | ((refine' Rp.tup ?h ?l); (case h => walk_at "look"); (case l => walk_at "rpl")))
local macro_rules | `(tactic| walk_at "rpl") => `(tactic| first
  | exact RpL.nil
  | ((refine' RpL.cons ?h ?l); (case h => walk_at "rp"); (case l => walk_at "rpl")))
local macro_rules | `(tactic| walk_at "vc") => `(tactic| repeat (first
  | with_reducible refine' x_seq ?_
  | with_reducible refine' x_ifS ?_
  | with_reducible refine' x_asg ?_
  | with_reducible refine' x_drop ?_
  | with_reducible refine' x_ret ?_
  | with_reducible refine' x_name ?_
  | with_reducible refine' x_c ?_
  | ((with_reducible refine' x_var ?h ?_); (case h => rfl))
  | with_reducible refine' x_op ?_
  | with_reducible refine' x_un ?_
  | with_reducible refine' x_tup ?_
  | with_reducible refine' x_lst ?_
  | ((with_reducible refine' x_gtup ?h ?l ?_); (case h => walk_at "look"); (case l => rfl))
  | ((with_reducible refine' x_gtup' ?h ?l ?_); (case h => walk_at "look"); (case l => rfl))
  | with_reducible refine' x_gcons ?_
  | with_reducible refine' x_gnil ?_
  | with_reducible refine' x_nil ?_
  | with_reducible refine' x_cons ?_
  | with_reducible refine' x_call ?_
  | with_reducible refine' x_meth ?_
  | ((with_reducible refine' x_methv ?h ?l ?_); (case h => walk_at "look"); (case l => first | rfl | decide +kernel))
  | with_reducible refine' x_make ?_
  | with_reducible refine' x_cb ?_
  | with_reducible refine' x_test ?_
  | with_reducible refine' x_B ?_
  | with_reducible refine' x_and ?_
  | with_reducible refine' x_or ?_
  | with_reducible refine' x_not ?_
  | with_reducible refine' x_if ?_
  | with_reducible refine' x_andV ?_
  | with_reducible refine' x_orV ?_
  | with_reducible refine' x_notV ?_
  | with_reducible refine' x_next ?_
  | with_reducible refine' x_gfldc ?_
  | with_reducible refine' x_bmF ?_
  | with_reducible refine' x_bmF0 ?_
  | ((with_reducible refine' y_tyL ?h ?_); (case h => walk_at "look"))
  | ((with_reducible refine' y_tyD ?h ?_); (case h => walk_at "look"))
  | ((with_reducible refine' y_lenL ?h ?_); (case h => walk_at "look"))
  | ((with_reducible refine' y_lenR ?h ?_); (case h => walk_at "look"))
  | with_reducible refine' x_forT ?_
  | with_reducible refine' x_forL ?_
  | with_reducible refine' x_lcT ?_
  | with_reducible refine' x_lcL ?_
  | ((with_reducible refine' y_tupleL ?h ?_); (case h => walk_at "look"); intro _ _ _ _ _)
  | ((with_reducible refine' y_tupleR ?h ?_); (case h => walk_at "look"))
  | ((with_reducible refine' y_tupleT ?h ?_); (case h => walk_at "look"))
  | with_reducible refine' x_cont ?_
  | with_reducible refine' x_sfldc ?_
  | with_reducible refine' x_bl ?_
  | ((with_reducible refine' x_fldc ?h ?l ?_); (case h => walk_at "look"); (case l => first | rfl | decide +kernel))
  | ((with_reducible refine' x_setc ?h ?l ?_); (case h => walk_at "look"); (case l => exact Nat.le_of_ble_eq_true rfl); intro _ _ _)
  | ((with_reducible refine' y_num ?h ?_); (case h => walk_at "look"))
  | ((with_reducible refine' y_den ?h ?_); (case h => walk_at "look"))
  | with_reducible refine' y_I0 ?_
  | ((with_reducible refine' y_ixS ?h ?e ?a ?_); (case h => walk_at "look"); (case e => rfl); (case a => rfl))
  | ((with_reducible refine' y_ixI ?h ?e ?a ?_); (case h => walk_at "look"); (case e => rfl); (case a => rfl))
  | ((with_reducible refine' y_ixB ?h ?e ?a ?_); (case h => walk_at "look"); (case e => rfl); (case a => rfl))
  | ((with_reducible refine' y_ixR ?h ?e ?a ?_); (case h => walk_at "look"); (case e => rfl); (case a => rfl); intro _ _)
  | ((with_reducible refine' y_ixT ?h ?a ?_); (case h => walk_at "look"); (case a => rfl))
  | ((with_reducible refine' y_eq ?s ?_); (case s => rfl))
  | ((with_reducible refine' y_ne ?s ?_); (case s => rfl))
  | ((with_reducible refine' x_rtup ?l ?_); (case l => exact Nat.le_of_ble_eq_true rfl); intro _ _ _ _ _)
  | ((with_reducible refine' x_rlst ?l ?_); (case l => exact Nat.le_of_ble_eq_true rfl); intro _ _ _ _ _)
  | ((with_reducible refine' ite_t ?h ?_); (case h => first | with_reducible rfl | assumption | exact decide_eq_true (by omega) | decide +kernel | rfl))
  | ((with_reducible refine' ite_f ?h ?_); (case h => first | with_reducible rfl | assumption | exact decide_eq_false (by omega) | decide +kernel | rfl))))
def sp_Game_init (K : PySem.W.Frag) : Sp := fun vs H Q _ => ∃ (p dx : Addr) (a b c d : V) (n s : Nat), vs = [.ref p, a, b, c, d] ∧ H p = some (.ins (He.ga K "Game") dx []) ∧ Rp H a gNone ∧ Rp H b (gTabs n) ∧ Rp H c gNone ∧ Rp H d (gProcs n s) ∧
  ∀ H', But p H H' → H' p = some (.ins (He.ga K "Game") dx [("variables", a), ("tables", b), ("lots", c), ("procs", d)]) → Q .non H'
def sp_Game_parts (K : PySem.W.Frag) : Sp := fun vs H Q _ => ∃ (x : V) (n s : Nat), vs = [x] ∧ GM K H x n s ∧ ∀ v H', Same H H' → Rp H' v (.tuple [gNone, gTabs n, gNone, gProcs n s]) → Q v H'
def sp_Game_eq (K : PySem.W.Frag) : Sp := fun vs H Q _ => ∃ (x y : V) (n s : Nat), vs = [x, y] ∧ GM K H x n s ∧ GM K H y n s ∧ ∀ H', Same H H' → Q (.bl true) H'
def sp_Game_proc (K : PySem.W.Frag) : Sp := fun vs H Q _ => ∃ (x : V) (n s : Nat), vs = [x, .str "p"] ∧ GM K H x n s ∧ ∀ v, Rp H v (gProc n s) → Q v H
theorem shaped_game (n s : Nat) : SeqAt.shaped (.tuple [gNone, gTabs n, gNone, gProcs n s]) = true := by simp [SeqAt.shaped, PyData.canLay0, PyData.canLayAll0, PyData.depth, PyData.depthAll]; decide +kernel
section
variable {P : Program} {w : World} {K : PySem.W.Frag} {mg : Str → Option Value} {base : Heap}
theorem sc_Game_init : FnScope ["self", "variables", "tables", "lots", "procs"] ["self", "variables", "tables", "lots", "procs"] (defScope s_Game_init) := ⟨rfl, rfl, rfl, by decide +kernel, rfl, by decide +kernel, by decide +kernel⟩
theorem sc_Game_parts : FnScope ["self"] ["self"] (defScope s_Game_parts) := ⟨rfl, rfl, rfl, by decide +kernel, rfl, by decide +kernel, by decide +kernel⟩
theorem sc_Game_eq : FnScope ["self", "other"] ["self", "other"] (defScope s_Game_eq) := ⟨rfl, rfl, rfl, by decide +kernel, rfl, by decide +kernel, by decide +kernel⟩
theorem sc_Game_proc : FnScope ["self", "name", "proc"] ["self", "name"] (defScope s_Game_proc) := ⟨rfl, rfl, rfl, by decide +kernel, rfl, by decide +kernel, by decide +kernel⟩
theorem ok_Game_init (T : Tx K mg) {fd : FuncData} (F : FnX K d_Game_init fd) : FnOk P w K mg base CX0 1 (He.fAd K d_Game_init.at_) fd ["self", "variables", "tables", "lots", "procs"] (sp_Game_init K) := by
  refine F.ok sc_Game_init (fun vs H Q E h => ?_) (fun cdv A outer s0 H vs Q E hr h => ?_)
  · obtain ⟨p, dx, a, b, c, d, n, s, rfl, _⟩ := h
    rfl
  obtain ⟨p, dx, a, b, c, d, n, s, rfl, hp, ha, hb, hc, hd, q⟩ := h
  refine ⟨_, PSs.nox (pss_cons (ps_fldc T.cl_Game T.n_Game_variables (pv 0) (pe_callTy call_tupleF (by rfl) T.f_tuple (by decide +kernel) (pa_cons (pv 1) pa_nil)))
      (pss_cons (ps_fldc T.cl_Game T.n_Game_tables (pv 0) (pe_callTy call_tupleF (by rfl) T.f_tuple (by decide +kernel) (pa_cons (pv 2) pa_nil)))
      (pss_cons (ps_fldc T.cl_Game T.n_Game_lots (pv 0) (pe_callTy call_tupleF (by rfl) T.f_tuple (by decide +kernel) (pa_cons (pv 3) pa_nil)))
      (pss_one (ps_fldc T.cl_Game T.n_Game_procs (pv 0) (pe_callTy call_tupleF (by rfl) T.f_tuple (by decide +kernel) (pa_cons (pv 4) pa_nil))))))), ?_⟩
  walk_at "vc"
  rename_i H1 e1 f1 H2 e2 f2 H3 e3 f3 H4 e4 f4
  exact q _ (((e1.trans e2).trans e3).trans e4) f4
theorem c_Game_init (T : Tx K mg) : Cal P w K mg base 1 d_Game_init ["self", "variables", "tables", "lots", "procs"] [] (sp_Game_init K) :=
  Cal.of T.d_Game_init rfl rfl (fun _ _ _ _ _ _ us hl => match us, hl with | [_, _, _, _, _], _ => rfl) fun fd F => ok_Game_init T F
theorem ok_Game_parts (T : Tx K mg) {fd : FuncData} (F : FnX K d_Game_parts fd) : FnOk P w K mg base CX0 1 (He.fAd K d_Game_parts.at_) fd ["self"] (sp_Game_parts K) := by
  refine F.ok sc_Game_parts (fun vs H Q E h => ?_) (fun cdv A outer s0 H vs Q E hr h => ?_)
  · obtain ⟨x, n, s, rfl, _⟩ := h
    rfl
  obtain ⟨x, n, s, rfl, hx, q⟩ := h
  refine ⟨_, PSs.nox (pss_one (ps_ret (pe_tupF (pa_cons (pe_fldc T.cl_Game T.n_Game_variables (pv 0)) (pa_cons (pe_fldc T.cl_Game T.n_Game_tables (pv 0)) (pa_cons (pe_fldc T.cl_Game T.n_Game_lots (pv 0)) (pa_cons (pe_fldc T.cl_Game T.n_Game_procs (pv 0)) pa_nil))))))), ?_⟩
  walk_at "vc"
  refine y_gvar hx fun u1 h1 => ?_
  walk_at "vc"
  refine y_gtab hx fun u2 h2 => ?_
  walk_at "vc"
  refine y_glot hx fun u3 h3 => ?_
  walk_at "vc"
  refine y_gproc hx fun u4 h4 => ?_
  walk_at "vc"
  refine q _ _ (by assumption) (by walk_at "rp")
theorem c_Game_parts (T : Tx K mg) : Cal P w K mg base 1 d_Game_parts ["self"] [] (sp_Game_parts K) :=
  Cal.of T.d_Game_parts rfl rfl (fun _ _ _ _ _ _ us hl => match us, hl with | [_], _ => rfl) fun fd F => ok_Game_parts T F
theorem ok_Game_eq (T : Tx K mg) {fd : FuncData} (F : FnX K d_Game_eq fd) : FnOk P w K mg base CX0 2 (He.fAd K d_Game_eq.at_) fd ["self", "other"] (sp_Game_eq K) := by
  refine F.ok sc_Game_eq (fun vs H Q E h => ?_) (fun cdv A outer s0 H vs Q E hr h => ?_)
  · obtain ⟨x, y, n, s, rfl, _⟩ := h
    rfl
  obtain ⟨x, y, n, s, rfl, hx, hy, q⟩ := h
  refine ⟨_, PSs.nox (pss_one (ps_ret (pe_and (pe_callB (call_isiO T.cl_Game T.exs.2.2.1) (by rfl) T.f_isinstance (by decide +kernel) (pa_cons (pv 1) (pa_cons (pe_glob (v := .ref (He.ga K "Game")) rfl T.g_Game rfl) pa_nil))) (pe_one (pe_cmpR (op_eqD hr.units) (pe_metc0 (c_Game_parts T) (pv 0) T.cl_Game T.m_Game_parts (hr.mono (by omega))) (pe_metc0 (c_Game_parts T) (pv 1) T.cl_Game T.m_Game_parts (hr.mono (by omega))) (nomark _)))))), ?_⟩
  obtain ⟨g, dx, a, b, c, d, rfl, hg, _⟩ := id hy
  obtain ⟨g', dx', a', b', c', d', rfl, hg', _⟩ := id hx
  walk_at "vc"
  refine ⟨g, dx, _, rfl, hg, ?_⟩
  walk_at "vc"
  refine ⟨_, n, s, rfl, hx, fun v1 H1 s1 h1 => ?_⟩
  walk_at "vc"
  refine ⟨_, n, s, rfl, hy.same s1, fun v2 H2 s2 h2 => ?_⟩
  refine ⟨_, _, (h1.same s2).dp, h2.dp, shaped_game n s, shaped_game n s, ?_⟩
  rw [SeqAt.eqv_refl _ (Bool.and_eq_true_iff.mp (shaped_game n s)).1]
  exact q _ (s1.trans s2)
theorem c_Game_eq (T : Tx K mg) : Cal P w K mg base 2 d_Game_eq ["self", "other"] [] (sp_Game_eq K) :=
  Cal.of T.d_Game_eq rfl rfl (fun _ _ _ _ _ _ us hl => match us, hl with | [_, _], _ => rfl) fun fd F => ok_Game_eq T F
theorem ok_Game_proc (T : Tx K mg) {fd : FuncData} (F : FnX K d_Game_proc fd) : FnOk P w K mg base CX0 1 (He.fAd K d_Game_proc.at_) fd ["self", "name"] (sp_Game_proc K) := by
  refine F.ok sc_Game_proc (fun vs H Q E h => ?_) (fun cdv A outer s0 H vs Q E hr h => ?_)
  · obtain ⟨x, n, s, rfl, _⟩ := h
    rfl
  obtain ⟨x, n, s, rfl, hx, q⟩ := h
  refine ⟨_, PSs.nox (pss_cons (ps_for PassesOwn.never rfl (pi_tup (pe_fldc T.cl_Game T.n_Game_procs (pv 0))) (pg_name (i := 2) sc_Game_proc.nd rfl (Or.inl rfl)) (pss_one (ps_if (pt_cmpR op_eq (pe_ix ix_tupF (pv 2) pe_int (fun _ _ => rfl)) (pv 1) (nomark _)) (pss_one (ps_ret (pv 2))) pss_nil)))
      (pss_one (ps_ret pe_non))), ?_⟩
  walk_at "vc"
  refine y_gproc hx fun u h => ?_
  refine y_forR h (fun i σ' H' => i = 0 ∧ H' = H ∧ σ' = [some x, some (.str "p"), none]) ⟨rfl, rfl, rfl⟩ (fun i σ' H' z => z.2.1 ▸ Fz.refl) ?_ ?_
  · rintro i d v σ' H' hi hd ⟨rfl, rfl, rfl⟩
    cases hi
    walk_at "vc"
    exact q v hd
  · rintro σ' H' ⟨z, _⟩
    cases z
theorem c_Game_proc (T : Tx K mg) : Cal P w K mg base 1 d_Game_proc ["self", "name"] [] (sp_Game_proc K) :=
  Cal.of T.d_Game_proc rfl rfl (fun _ _ _ _ _ _ us hl => match us, hl with | [_, _], _ => rfl) fun fd F => ok_Game_proc T F
end
end Tn
set_option Elab.async false
set_option linter.all false
set_option maxRecDepth 100000
set_option maxHeartbeats 4000000
namespace Tn
open PySem PySem.Spec L2
/-! ### own forms -/
def gFldC (C : Addr) (f : Str) (to : TE) : TG := fun v σ H Q => to σ H fun x H1 => rSetC C f v x H1 fun H2 => Q σ H2
section
variable {X : Cx} {o : Expr} {f : Str} {pos : Pos} {ta : TE} {C : Addr}
theorem pg_fldc (c : Cls X.K C) (n : NoAttr X.K C f) (ho : PE X o ta) : PG X (.Attribute o f pos) (gFldC C f ta) := by
  refine ⟨fun pins s σ H v u Q I r h => ?_⟩
  show wpAny (model X.prog X.w) X.A (do
    let ov ← holding [u] (eval o X.env)
    standAt pos.atName
    holding [u, ov] (setAttr ov f u)
    release [u, ov] []) _ _ _
  refine wpAny_bind (wpAny_holding (thn (ho.run pins s σ H _ I h) fun ov s1 ⟨x, H1, I1, r1, a, dx, fs, ex, ea, l, q2⟩ => ?_))
  subst ex
  obtain rfl : ov = Value.ref a := r1
  refine wpAny_bind (wpAny_standAt (wpAny_bind (wpAny_holding (setattr_ok I1 ea c n l r fun s3 I3 => ?_))))
  exact wpAny_release ⟨σ, _, I3, q2⟩
/-- list(..) of a list, of a tuple -/
def rListF : List V → Hp → VK → Prop := fun xs H Q => ∃ p ys, xs = [.ref p] ∧ (H p = some (.lst ys) ∨ TU H p ys) ∧ ∀ l H', H l = none → Same H H' → H' l = some (.lst ys) → Q (.ref l) H'
theorem call_listF : CallR X (.type "list") rListF := by
  intro pins s σ H xs us Q I r ⟨p, ys, e, h, q⟩
  refine call_list_of pins s σ H xs us Q I r ⟨p, ys, e, ?_, fun l hl => q l _ hl (Same.new hl) upd_same⟩
  rcases h with h | h
  · exact .inl (SqL.of h)
  · exact .inr h.sq
/-- dict(d) -/
def rDictD : List V → Hp → VK → Prop := fun xs H Q => ∃ (a : Addr) (kvs : List (Key × V)), xs = [.ref a] ∧ H a = some (.dK kvs) ∧ ∀ p H', H p = none → Same H H' → H' p = some (.dK kvs) → Q (.ref p) H'
theorem call_dictF : CallR X (.type "dict") rDictD := by
  intro pins s σ H xs us Q I r ⟨a, kvs, e, h, q⟩
  exact call_dictD pins s σ H xs us Q I r ⟨a, kvs, e, .inl h, fun l hl => q l _ hl (Same.new hl) upd_same⟩
end
section
variable {K : PySem.W.Frag} {σ : L2.St} {H : Hp} {Q : VK} {C : Addr} {f : Str} {to : TE} {v : V}
theorem x_gfldc {Q : L2.St → Hp → Prop} (q : to σ H fun x H1 => rSetC C f v x H1 fun H2 => Q σ H2) : gFldC C f to v σ H Q := q
theorem y_listT {p : Addr} {ys : List V} (h : TU H p ys) (q : ∀ l H', H l = none → Same H H' → H' l = some (.lst ys) → Q (.ref l) H') : rListF [.ref p] H Q := ⟨p, ys, rfl, .inr h, q⟩
theorem y_listR {x : V} {ds : List PyData} (h : Rp H x (.tuple ds)) (q : ∀ l H' ys, RpL H ys ds → H l = none → Same H H' → H' l = some (.lst ys) → Q (.ref l) H') : rListF [x] H Q := by
  obtain ⟨a, xs, rfl, hp, hx⟩ := h.t_
  exact ⟨a, xs, rfl, .inr hp, fun l H' h1 s h2 => q l H' xs hx h1 s h2⟩
end
/-! ### states -/
abbrev rowD (k : Nat) : PyData := .tuple [.int k, .int 1]
/-- the state: the keys that the table has, in order; whether bad has come -/
abbrev stD (ks : List Nat) (b : Bool) : PyData := .tuple [.tuple [], .tuple [.tuple (ks.map rowD)], .tuple [], .bool b]
def entN (k : Nat) : Key × V := (Sum.inl (k : Int), .int 1)
def insS (a : Nat) : List Nat → List Nat
  | [] => [a]
  | b :: r => if a ≤ b then a :: b :: r else b :: insS a r
def srt : List Nat → List Nat
  | [] => []
  | a :: r => insS a (srt r)
theorem insS_perm (a : Nat) : ∀ l, (insS a l).Perm (a :: l)
  | [] => .refl _
  | b :: r => by
    unfold insS
    split
    · exact .refl _
    · exact ((insS_perm a r).cons b).trans (.swap a b r)
theorem srt_perm : ∀ l, (srt l).Perm l
  | [] => .refl _
  | a :: r => (insS_perm a (srt r)).trans ((srt_perm r).cons a)
theorem insS_sorted (a : Nat) : ∀ l : List Nat, l.Pairwise (· ≤ ·) → (insS a l).Pairwise (· ≤ ·)
  | [], _ => List.pairwise_singleton _ _
  | b :: r, h => by
    unfold insS
    rw [List.pairwise_cons] at h
    split
    · rename_i hab
      rw [List.pairwise_cons]
      refine ⟨fun c hc => ?_, List.pairwise_cons.mpr h⟩
      rcases List.mem_cons.mp hc with rfl | hc
      · exact hab
      · exact Nat.le_trans hab (h.1 c hc)
    · rename_i hab
      rw [List.pairwise_cons]
      refine ⟨fun c hc => ?_, insS_sorted a r h.2⟩
      rcases List.mem_cons.mp ((insS_perm a r).mem_iff.mp hc) with rfl | hc
      · omega
      · exact h.1 c hc
theorem srt_sorted : ∀ l : List Nat, (srt l).Pairwise (· ≤ ·)
  | [] => .nil
  | a :: r => insS_sorted a _ (srt_sorted r)
theorem srt_unique {l : List Nat} {m : List Int} (p : m.Perm (l.map fun (k : Nat) => (k : Int))) (s : m.Pairwise (· ≤ ·)) : m = (srt l).map fun (k : Nat) => (k : Int) := by
  refine List.Perm.eq_of_pairwise (le := fun a b => decide (a ≤ b)) (fun a b _ _ h1 h2 => ?_) (s.imp (by simp)) ?_ (p.trans ((srt_perm l).map _).symm)
  · simp at h1 h2
    omega
  · rw [List.pairwise_map]
    exact (srt_sorted l).imp (by simp)
theorem srt_id {l : List Nat} (h : l.Pairwise (· ≤ ·)) : srt l = l := by
  refine List.Perm.eq_of_pairwise (le := fun a b => decide (a ≤ b)) (fun a b _ _ h1 h2 => ?_) ((srt_sorted l).imp (by simp)) (h.imp (by simp)) (srt_perm l)
  simp at h1 h2
  omega
theorem mergeK_nodup : ∀ (ls acc : List (Key × V)), ((acc ++ ls).map (·.1)).Nodup → mergeK acc ls = acc ++ ls
  | [], acc, _ => by simp [mergeK]
  | p :: r, acc, h => by
    have hn : valV acc p.1 = none := by
      cases e : valV acc p.1 with
      | none => rfl
      | some v =>
        exfalso
        have := valV_in e
        rw [List.map_append, List.map_cons] at h
        exact (List.nodup_append.mp h).2.2 _ this _ (List.mem_cons_self ..) rfl
    show mergeK (putK acc p.1 p.2) r = _
    rw [putK_new _ hn, mergeK_nodup r (acc ++ [(p.1, p.2)]) (by simpa using h)]
    simp
theorem entN_nodup {ks : List Nat} (h : ks.Nodup) : ((ks.map entN).map (·.1)).Nodup := by
  rw [List.map_map]
  refine List.Pairwise.map _ (fun a b hab z => hab ?_) h
  simp only [Function.comp, entN, Sum.inl.injEq] at z
  omega
section
variable {K : PySem.W.Frag} {H : Hp} {Q : VK}
/-- dict(rows) -/
theorem y_dictRows {x : V} {ks : List Nat} (h : Rp H x (.tuple (ks.map rowD))) (nd : ks.Nodup) (q : ∀ p H', H p = none → Same H H' → H' p = some (.dK (ks.map entN)) → Q (.ref p) H') : rDictT [x] H Q := by
  obtain ⟨a, xs, rfl, hp, hx⟩ := h.t_
  have key : ∀ (ks : List Nat) (xs : List V), RpL H xs (ks.map rowD) → ∃ ps : List Addr, xs = ps.map V.ref ∧ Paired (fun p kv => TU H p [kV kv.1, kv.2]) ps (ks.map entN) := by
    intro ks
    induction ks with
    | nil =>
      intro xs h
      cases h
      exact ⟨[], rfl, .nil⟩
    | cons k r ih =>
      intro xs h
      cases h with
      | cons h1 h2 =>
        obtain ⟨p, ys, rfl, hp, hy⟩ := h1.t_
        obtain ⟨ps, rfl, pr⟩ := ih _ h2
        refine ⟨p :: ps, rfl, .cons ?_ pr⟩
        cases hy with
        | cons a1 a2 =>
          cases a2 with
          | cons a3 a4 =>
            cases a4
            cases a1
            cases a3
            exact hp
  obtain ⟨ps, rfl, pr⟩ := key ks xs hx
  refine ⟨a, ps, ks.map entN, rfl, hp, pr, fun p H' h1 s h2 => q p H' h1 s ?_⟩
  rw [h2, mergeK_nodup _ [] (by simpa using entN_nodup nd), List.nil_append]
end
/-! ### moments -/
/-- statements that are left -/
def pendD : List PyData → PyData
  | [] => .none
  | s :: r => .tuple [s, pendD r]
def momF (l1 lt l3 : Addr) (b : Bool) (nm : Addr) (pd : V) : List (Str × V) := [("held", .ref l1), ("tables", .ref lt), ("lots", .ref l3), ("bad", .bl b), ("names", .ref nm), ("pending", pd)]
/-- a moment's objects -/
structure Mo where
  p : Addr
  dt : Addr
  nm : Addr
  l1 : Addr
  lt : Addr
  l3 : Addr
def Mo.all (m : Mo) : List Addr := [m.p, m.dt, m.nm, m.l1, m.lt, m.l3]
def Mo.own (m : Mo) : List Addr := [m.p, m.dt, m.l1, m.lt, m.l3]
theorem Mo.nm_all (m : Mo) : m.nm ∈ m.all := by simp [Mo.all]
theorem Mo.own_all {m : Mo} {x : Addr} (h : x ∉ m.all) : x ∉ m.own := by
  simp only [Mo.all, Mo.own, List.mem_cons, List.not_mem_nil, or_false, not_or] at h ⊢
  exact ⟨h.1, h.2.1, h.2.2.2.1, h.2.2.2.2.1, h.2.2.2.2.2⟩
def MomAt (K : PySem.W.Frag) (H : Hp) (m : Mo) (ks : List Nat) (b : Bool) (ps : List PyData) : Prop :=
  ∃ dx pd, H m.p = some (.ins (He.ga K "Moment") dx (momF m.l1 m.lt m.l3 b m.nm pd)) ∧ H m.l1 = some (.lst []) ∧ H m.lt = some (.lst [.ref m.dt]) ∧ H m.l3 = some (.lst []) ∧ H m.dt = some (.dK (ks.map entN)) ∧ Rp H pd (pendD ps)
def MoFree (H : Hp) (m : Mo) : Prop := ∀ a ∈ m.all, H a = none
def NmAt (H : Hp) (nm : Addr) (a : Nat) : Prop := H nm = some (.dK [(Sum.inr "g", .int 0), (Sum.inr "a", .int a)])
theorem MomAt.keep {K : PySem.W.Frag} {H H' : Hp} {m : Mo} {ks : List Nat} {b : Bool} {ps : List PyData} (k : ∀ a o, (a ∈ m.own ∨ (∃ x u, o = .frz x u)) → H a = some o → H' a = some o) (h : MomAt K H m ks b ps) : MomAt K H' m ks b ps := by
  obtain ⟨dx, pd, h1, h2, h3, h4, h5, h6⟩ := h
  have i1 : m.p ∈ m.own := by simp [Mo.own]
  have i2 : m.l1 ∈ m.own := by simp [Mo.own]
  have i3 : m.lt ∈ m.own := by simp [Mo.own]
  have i4 : m.l3 ∈ m.own := by simp [Mo.own]
  have i5 : m.dt ∈ m.own := by simp [Mo.own]
  exact ⟨dx, pd, k _ _ (.inl i1) h1, k _ _ (.inl i2) h2, k _ _ (.inl i3) h3, k _ _ (.inl i4) h4, k _ _ (.inl i5) h5, h6.tz fun a o u e => k _ _ (.inr ⟨_, _, rfl⟩) e⟩
theorem MomAt.same {K : PySem.W.Frag} {H H' : Hp} {m : Mo} {ks : List Nat} {b : Bool} {ps : List PyData} (s : Same H H') (h : MomAt K H m ks b ps) : MomAt K H' m ks b ps := h.keep fun a o _ e => s a o e
/-- what changes is another list, dict .. -/
theorem MomAt.but {K : PySem.W.Frag} {H H' : Hp} {m : Mo} {ks : List Nat} {b : Bool} {ps : List PyData} {l : Addr} {u : HO} (bt : But l H H') (hl : H l = some u) (nu : ∀ o v, u ≠ .frz o v) (n : l ∉ m.own) (h : MomAt K H m ks b ps) : MomAt K H' m ks b ps :=
  h.keep fun a o k e => bt a o (by
    rcases k with k | ⟨x, v, rfl⟩
    · exact fun z => n (z ▸ k)
    · exact ne_of e hl fun z => nu x v z.symm) e
theorem MoFree.of {H H' : Hp} {m : Mo} (s : Same H H') (h : MoFree H' m) : MoFree H m := fun a ha => by
  cases e : H a with
  | none => rfl
  | some o => exact (s _ _ e).symm.trans (h a ha)
theorem MoFree.not {H : Hp} {m : Mo} {l : Addr} {u : HO} (h : MoFree H m) (hl : H l = some u) : l ∉ m.all := fun z => by
  rw [h l z] at hl
  cases hl
theorem MoFree.apart {K : PySem.W.Frag} {H : Hp} {m m' : Mo} {ks : List Nat} {b : Bool} {ps : List PyData} {a : Nat} (h : MoFree H m) (h1 : MomAt K H m' ks b ps) (h2 : NmAt H m'.nm a) : ∀ x ∈ m'.all, x ∉ m.all := by
  obtain ⟨dx, pd, g1, g2, g3, g4, g5, g6⟩ := h1
  intro x hx
  simp only [Mo.all, List.mem_cons, List.not_mem_nil, or_false] at hx
  rcases hx with rfl | rfl | rfl | rfl | rfl | rfl
  · exact h.not g1
  · exact h.not g5
  · exact h.not h2
  · exact h.not g2
  · exact h.not g3
  · exact h.not g4
theorem NmAt.same {H H' : Hp} {nm : Addr} {a : Nat} (s : Same H H') (h : NmAt H nm a) : NmAt H' nm a := s _ _ h
theorem But.free {l a : Addr} {H H' : Hp} {o : HO} (b : But l H H') (hl : H' l = some o) (h : H' a = none) : H a = none := by
  cases e : H a with
  | none => rfl
  | some u =>
    by_cases z : a = l
    · rw [z, hl] at h
      cases h
    · rw [b a u z e] at h
      cases h
theorem one_of {α : Type} {l : List α} (h : l.length = 1) : ∃ y, l = [y] := by
  match l, h with
  | [y], _ => exact ⟨y, rfl⟩
local macro_rules | `(tactic| walk_at "tz") => `(tactic| first
  | ((refine' Tz.same ?s); (case s => with_reducible assumption))
  | ((refine' Tz.but ?b ?h ?n); (case b => with_reducible assumption); (case h => walk_at "look"); (case n => (intro o v z; cases z))))
local macro_rules | `(tactic| walk_at "fz") => `(tactic| first
  | ((refine' Fz.same ?s); (case s => with_reducible assumption))
  | ((refine' Fz.but ?b ?h ?n); (case b => with_reducible assumption); (case h => walk_at "look"); (case n => first | exact nf_lst | exact nf_dK | exact nf_ext | assumption)))
local macro_rules | `(tactic| walk_at "look") => `(tactic| first
  | with_reducible assumption
  | ((with_reducible refine' Same.app ?s ?m); (case s => with_reducible assumption); (case m => walk_at "look"))
  | ((with_reducible refine' RR.fz ?z ?m); (case z => walk_at "fz"); (case m => walk_at "look"))
  | ((with_reducible refine' Rp.tz ?z ?m); (case z => walk_at "tz"); (case m => walk_at "look"))
  | ((with_reducible refine' TU.tz ?z ?m); (case z => walk_at "tz"); (case m => walk_at "look"))
  | ((with_reducible refine' RpL.tz ?z ?m); (case z => walk_at "tz"); (case m => walk_at "look"))
  | ((with_reducible refine' GM.fz ?z ?m); (case z => walk_at "fz"); (case m => walk_at "look"))
  | ((with_reducible refine' But.app' ?b ?n ?m); (case b => with_reducible assumption); (case n => first | assumption | (refine Ne.symm ?_; assumption)); (case m => walk_at "look"))
  | ((with_reducible refine' But.app ?b ?l ?d ?m); (case b => with_reducible assumption); (case m => walk_at "look"); (case l => walk_at "look"); (case d => (intro z; cases z))))
local macro_rules | `(tactic| walk_at "rp") => `(tactic| first
  | (with_reducible assumption)
  | walk_at "look"
  | exact Rp.bl _ | exact Rp.int _ | exact Rp.str _ | exact Rp.non
  | ((refine' Rp.tup ?h ?l); (case h => walk_at "look"); (case l => walk_at "rpl")))
local macro_rules | `(tactic| walk_at "rpl") => `(tactic| first
  | exact RpL.nil
  | ((refine' RpL.cons ?h ?l); (case h => walk_at "rp"); (case l => walk_at "rpl")))
local macro_rules | `(tactic| walk_at "vc") => `(tactic| repeat (first
  | with_reducible refine' x_seq ?_
  | with_reducible refine' x_ifS ?_
  | with_reducible refine' x_asg ?_
  | with_reducible refine' x_drop ?_
  | with_reducible refine' x_ret ?_
  | with_reducible refine' x_name ?_
  | with_reducible refine' x_c ?_
  | ((with_reducible refine' x_var ?h ?_); (case h => rfl))
  | with_reducible refine' x_op ?_
  | with_reducible refine' x_un ?_
  | with_reducible refine' x_tup ?_
  | with_reducible refine' x_lst ?_
  | ((with_reducible refine' x_gtup ?h ?l ?_); (case h => walk_at "look"); (case l => rfl))
  | ((with_reducible refine' x_gtup' ?h ?l ?_); (case h => walk_at "look"); (case l => rfl))
  | with_reducible refine' x_gcons ?_
  | with_reducible refine' x_gnil ?_
  | with_reducible refine' x_nil ?_
  | with_reducible refine' x_cons ?_
  | with_reducible refine' x_call ?_
  | with_reducible refine' x_meth ?_
  | ((with_reducible refine' x_methv ?h ?l ?_); (case h => walk_at "look"); (case l => first | rfl | decide +kernel))
  | with_reducible refine' x_make ?_
  | with_reducible refine' x_cb ?_
  | with_reducible refine' x_test ?_
  | with_reducible refine' x_B ?_
  | with_reducible refine' x_and ?_
  | with_reducible refine' x_or ?_
  | with_reducible refine' x_not ?_
  | with_reducible refine' x_if ?_
  | with_reducible refine' x_andV ?_
  | with_reducible refine' x_orV ?_
  | with_reducible refine' x_notV ?_
  | with_reducible refine' x_next ?_
  | with_reducible refine' x_gfldc ?_
  | with_reducible refine' x_bmF ?_
  | with_reducible refine' x_bmF0 ?_
  | ((with_reducible refine' y_tyL ?h ?_); (case h => walk_at "look"))
  | ((with_reducible refine' y_tyD ?h ?_); (case h => walk_at "look"))
  | ((with_reducible refine' y_lenL ?h ?_); (case h => walk_at "look"))
  | ((with_reducible refine' y_lenR ?h ?_); (case h => walk_at "look"))
  | with_reducible refine' x_forT ?_
  | with_reducible refine' x_forL ?_
  | with_reducible refine' x_lcT ?_
  | with_reducible refine' x_lcL ?_
  | ((with_reducible refine' y_tupleL ?h ?_); (case h => walk_at "look"); intro _ _ _ _ _)
  | ((with_reducible refine' y_tupleR ?h ?_); (case h => walk_at "look"))
  | ((with_reducible refine' y_tupleT ?h ?_); (case h => walk_at "look"))
  | with_reducible refine' x_cont ?_
  | with_reducible refine' x_dget ?_
  | with_reducible refine' x_din ?_
  | with_reducible refine' x_dput ?_
  | with_reducible refine' x_sfldc ?_
  | with_reducible refine' x_bl ?_
  | ((with_reducible refine' x_fldc ?h ?l ?_); (case h => walk_at "look"); (case l => first | rfl | decide +kernel))
  | ((with_reducible refine' x_setc ?h ?l ?_); (case h => walk_at "look"); (case l => exact Nat.le_of_ble_eq_true rfl); intro _ _ _)
  | ((with_reducible refine' y_num ?h ?_); (case h => walk_at "look"))
  | ((with_reducible refine' y_den ?h ?_); (case h => walk_at "look"))
  | with_reducible refine' y_I0 ?_
  | ((with_reducible refine' y_ixS ?h ?e ?a ?_); (case h => walk_at "look"); (case e => rfl); (case a => rfl))
  | ((with_reducible refine' y_ixI ?h ?e ?a ?_); (case h => walk_at "look"); (case e => rfl); (case a => rfl))
  | ((with_reducible refine' y_ixB ?h ?e ?a ?_); (case h => walk_at "look"); (case e => rfl); (case a => rfl))
  | ((with_reducible refine' y_ixR ?h ?e ?a ?_); (case h => walk_at "look"); (case e => rfl); (case a => rfl); intro _ _)
  | ((with_reducible refine' y_ixT ?h ?a ?_); (case h => walk_at "look"); (case a => rfl))
  | ((with_reducible refine' y_eq ?s ?_); (case s => rfl))
  | ((with_reducible refine' y_ne ?s ?_); (case s => rfl))
  | ((with_reducible refine' x_rtup ?l ?_); (case l => exact Nat.le_of_ble_eq_true rfl); intro _ _ _ _ _)
  | ((with_reducible refine' x_rlst ?l ?_); (case l => exact Nat.le_of_ble_eq_true rfl); intro _ _ _ _ _)
  | ((with_reducible refine' ite_t ?h ?_); (case h => first | with_reducible rfl | assumption | exact decide_eq_true (by omega) | decide +kernel | rfl))
  | ((with_reducible refine' ite_f ?h ?_); (case h => first | with_reducible rfl | assumption | exact decide_eq_false (by omega) | decide +kernel | rfl))))
def sp_first_state (K : PySem.W.Frag) : Sp := fun vs H Q _ => ∃ (x : V) (n s : Nat), vs = [x] ∧ GM K H x n s ∧ ∀ v H', Same H H' → Rp H' v (stD [] false) → Q v H'
def sp_Moment_init (K : PySem.W.Frag) : Sp := fun vs H Q _ => ∃ (p dx nm : Addr) (x pd : V) (ks : List Nat) (b : Bool) (ps : List PyData), vs = [.ref p, x, .ref nm, pd] ∧ H p = some (.ins (He.ga K "Moment") dx []) ∧ Rp H x (stD ks b) ∧ ks.Nodup ∧ Rp H pd (pendD ps) ∧
  ∀ H' dt l1 lt l3, But p H H' → H dt = none → H l1 = none → H lt = none → H l3 = none → MomAt K H' ⟨p, dt, nm, l1, lt, l3⟩ ks b ps → Q .non H'
def sp_Moment_state (K : PySem.W.Frag) : Sp := fun vs H Q _ => ∃ (m : Mo) (ks : List Nat) (b : Bool) (ps : List PyData), vs = [.ref m.p] ∧ MomAt K H m ks b ps ∧ ks.length < 64 ∧ (∀ k ∈ ks, k < 1000) ∧
  ∀ v H', Same H H' → Rp H' v (stD (srt ks) b) → Q v H'
def sp_Moment_copy (K : PySem.W.Frag) : Sp := fun vs H Q _ => ∃ (m : Mo) (ks : List Nat) (b : Bool) (a : Nat) (ps : List PyData), vs = [.ref m.p] ∧ MomAt K H m ks b ps ∧ NmAt H m.nm a ∧ ks.length < 64 ∧ (∀ k ∈ ks, k < 1000) ∧ ks.Nodup ∧
  ∀ m' H', Same H H' → MoFree H m' → m'.nm ∉ m'.own → MomAt K H' m' (srt ks) b ps → NmAt H' m'.nm a → Q (.ref m'.p) H'
section
variable {P : Program} {w : World} {K : PySem.W.Frag} {mg : Str → Option Value} {base : Heap}
theorem sc_first_state : FnScope ["game", "empty", "row", "name", "size", "first"] ["game"] (defScope s_first_state) := ⟨rfl, rfl, rfl, by decide +kernel, rfl, by decide +kernel, by decide +kernel⟩
theorem sc_Moment_init : FnScope ["self", "state", "names", "pending", "rows"] ["self", "state", "names", "pending"] (defScope s_Moment_init) := ⟨rfl, rfl, rfl, by decide +kernel, rfl, by decide +kernel, by decide +kernel⟩
theorem sc_Moment_state : FnScope ["self", "tables", "lots", "rows"] ["self"] (defScope s_Moment_state) := ⟨rfl, rfl, rfl, by decide +kernel, rfl, by decide +kernel, by decide +kernel⟩
theorem sc_Moment_copy : FnScope ["self"] ["self"] (defScope s_Moment_copy) := ⟨rfl, rfl, rfl, by decide +kernel, rfl, by decide +kernel, by decide +kernel⟩
theorem ok_first_state (T : Tx K mg) {fd : FuncData} (F : FnX K d_first_state fd) : FnOk P w K mg base CX0 1 (He.fAd K d_first_state.at_) fd ["game"] (sp_first_state K) := by
  refine F.ok sc_first_state (fun vs H Q E h => ?_) (fun cdv A outer s0 H vs Q E hr h => ?_)
  · obtain ⟨x, n, s, rfl, _⟩ := h
    rfl
  obtain ⟨x, n, s, rfl, hx, q⟩ := h
  refine ⟨_, PSs.nox (pss_cons (ps_set (i := 1) sc_first_state.nd rfl (Or.inl rfl) (pe_callTy call_tupleF (by rfl) T.f_tuple (by decide +kernel) (pa_cons (pe_lc (own := [("row", 2)]) (g := gName 2) (tt := tYes) (by rfl) sc_first_state.nd (pi_tup (pe_fldc T.cl_Game T.n_Game_tables (pv 0))) (blkOk_by (own := [("row", 2)]) (N := ["game", "empty", "row", "name", "size", "first"]) (sc := defScope s_first_state) (by decide +kernel)) (fun _ _ _ _ _ => (pg_name (i := 2) sc_first_state.nd rfl (Or.inl rfl))) (fun _ _ _ _ _ => pts_nil) (fun _ _ _ _ _ => (pe_tupF pa_nil))) pa_nil)))
      (pss_one (ps_ret (pe_tupF (pa_cons (pe_callTy call_tupleF (by rfl) T.f_tuple (by decide +kernel) (pa_cons (pe_lc (own := [("name", 3), ("size", 4), ("first", 5)]) (g := gTup K 3 (gCons (gName 3) (gCons (gName 4) (gCons (gName 5) gNil)))) (tt := tYes) (by rfl) sc_first_state.nd (pi_tup (pe_fldc T.cl_Game T.n_Game_variables (pv 0))) (blkOk_by (own := [("name", 3), ("size", 4), ("first", 5)]) (N := ["game", "empty", "row", "name", "size", "first"]) (sc := defScope s_first_state) (by decide +kernel)) (fun _ _ _ _ _ => (pg_tup rfl (pgs_cons (pg_name (i := 3) sc_first_state.nd rfl (Or.inl rfl)) (pgs_cons (pg_name (i := 4) sc_first_state.nd rfl (Or.inl rfl)) (pgs_cons (pg_name (i := 5) sc_first_state.nd rfl (Or.inl rfl)) pgs_nil))))) (fun _ _ _ _ _ => pts_nil) (fun _ _ _ _ _ => (pv 5))) pa_nil)) (pa_cons (pv 1) (pa_cons (pe_callTy call_tupleF (by rfl) T.f_tuple (by decide +kernel) (pa_cons (pe_lc (own := [("row", 2)]) (g := gName 2) (tt := tYes) (by rfl) sc_first_state.nd (pi_tup (pe_fldc T.cl_Game T.n_Game_lots (pv 0))) (blkOk_by (own := [("row", 2)]) (N := ["game", "empty", "row", "name", "size", "first"]) (sc := defScope s_first_state) (by decide +kernel)) (fun _ _ _ _ _ => (pg_name (i := 2) sc_first_state.nd rfl (Or.inl rfl))) (fun _ _ _ _ _ => pts_nil) (fun _ _ _ _ _ => (pe_tupF pa_nil))) pa_nil)) (pa_cons pe_bl pa_nil)))))))), ?_⟩
  walk_at "vc"
  refine y_gtab hx fun u1 h1 => ?_
  obtain ⟨a1, x1, rfl, h1a, h1b⟩ := h1.t_
  refine y_lcT (fun D i v H => Rp H v gNone) (fun D ys i v H H' hD b r => r.tz (Tz.but b hD (fun o v z => by cases z))) h1a (by rw [h1b.len]; exact Nat.le_of_ble_eq_true rfl) (fun D i x H' acc hi hD s1 hacc Q' q' => ?_) mg_name fun D H1 acc hD s1 hacc hl hr1 => ?_
  · walk_at "vc"
    refine ⟨rfl, ?_⟩
    walk_at "vc"
    refine q' _ _ (by assumption) (by walk_at "rp")
  walk_at "vc"
  rename_i l1 H2 f1 s2 t1
  have r1 : Rp H2 (.ref l1) (.tuple [gNone]) := Rp.tup t1 (RpL.of (by rw [hl, h1b.len]; rfl) fun i v d e1 e2 => by
    have := (hr1 i v e1).same s2
    match i, e2 with
    | 0, e2 => cases e2; exact this
    | i + 1, e2 => cases e2)
  refine y_gvar (hx.same (s1.trans s2)) fun u2 h2 => ?_
  obtain ⟨a2, x2, rfl, h2a, h2b⟩ := h2.t_
  cases h2b
  refine y_lcT (fun D i v H => False) (fun D ys i v H H' hD b r => r) h2a (by decide) (fun D i x H' acc hi hD s1 hacc Q' q' => by cases hi) (mg_tup (mg_cons mg_name (mg_cons mg_name (mg_cons mg_name mg_nil)))) fun D H3 acc hD s3 hacc hl hr1 => ?_
  have e0 : acc = [] := List.length_eq_zero_iff.mp hl
  subst e0
  walk_at "vc"
  rename_i l2 H4 f2 s4 t2
  refine y_glot (hx.same (((s1.trans s2).trans s3).trans s4)) fun u3 h3 => ?_
  obtain ⟨a3, x3, rfl, h3a, h3b⟩ := h3.t_
  cases h3b
  refine y_lcT (fun D i v H => False) (fun D ys i v H H' hD b r => r) h3a (by decide) (fun D i x H' acc hi hD s1 hacc Q' q' => by cases hi) mg_name fun D2 H5 acc2 hD2 s5 hacc2 hl2 hr2 => ?_
  have e0 : acc2 = [] := List.length_eq_zero_iff.mp hl2
  subst e0
  walk_at "vc"
  rename_i l3 H6 f3 s6 t3 l4 H7 f4 s7 t4
  refine q _ _ (((((((s1.trans s2).trans s3).trans s4).trans s5).trans s6).trans s7)) ?_
  have z1 : Rp H7 (.ref l2) (.tuple []) := Rp.tup (((t2.same s5).same s6).same s7) .nil
  have z2 : Rp H7 (.ref l3) (.tuple []) := Rp.tup (t3.same s7) .nil
  have z3 : Rp H7 (.ref l1) (.tuple [gNone]) := ((((r1.same s3).same s4).same s5).same s6).same s7
  exact Rp.tup t4 (.cons z1 (.cons z3 (.cons z2 (.cons (.bl _) .nil))))
theorem c_first_state (T : Tx K mg) : Cal P w K mg base 1 d_first_state ["game"] [] (sp_first_state K) :=
  Cal.of T.d_first_state rfl rfl (fun _ _ _ _ _ _ us hl => match us, hl with | [_], _ => rfl) fun fd F => ok_first_state T F
theorem ok_Moment_init (T : Tx K mg) {fd : FuncData} (F : FnX K d_Moment_init fd) : FnOk P w K mg base CX0 1 (He.fAd K d_Moment_init.at_) fd ["self", "state", "names", "pending"] (sp_Moment_init K) := by
  refine F.ok sc_Moment_init (fun vs H Q E h => ?_) (fun cdv A outer s0 H vs Q E hr h => ?_)
  · obtain ⟨p, dx, nm, x, pd, ks, b, ps, rfl, _⟩ := h
    rfl
  obtain ⟨p, dx, nm, x, pd, ks, b, ps, rfl, hp, hx, nd, hpd, q⟩ := h
  refine ⟨_, PSs.nox (pss_cons (ps_fldc T.cl_Moment T.n_Moment_held (pv 0) (pe_callTy call_listF (by rfl) T.f_list (by decide +kernel) (pa_cons (pe_ix ix_tupF (pv 1) pe_int (fun _ _ => rfl)) pa_nil)))
      (pss_cons (ps_fldc T.cl_Moment T.n_Moment_tables (pv 0) (pe_lc (own := [("rows", 4)]) (g := gName 4) (tt := tYes) (by rfl) sc_Moment_init.nd (pi_tup (pe_ix ix_tupF (pv 1) pe_int (fun _ _ => rfl))) (blkOk_by (own := [("rows", 4)]) (N := ["self", "state", "names", "pending", "rows"]) (sc := defScope s_Moment_init) (by decide +kernel)) (fun _ _ _ _ _ => (pg_name (i := 4) sc_Moment_init.nd rfl (Or.inl rfl))) (fun _ _ _ _ _ => pts_nil) (fun _ _ _ _ _ => (pe_callTy (call_dictT rfl) (by rfl) T.f_dict (by decide +kernel) (pa_cons (pv 4) pa_nil)))))
      (pss_cons (ps_fldc T.cl_Moment T.n_Moment_lots (pv 0) (pe_lc (own := [("rows", 4)]) (g := gName 4) (tt := tYes) (by rfl) sc_Moment_init.nd (pi_tup (pe_ix ix_tupF (pv 1) pe_int (fun _ _ => rfl))) (blkOk_by (own := [("rows", 4)]) (N := ["self", "state", "names", "pending", "rows"]) (sc := defScope s_Moment_init) (by decide +kernel)) (fun _ _ _ _ _ => (pg_name (i := 4) sc_Moment_init.nd rfl (Or.inl rfl))) (fun _ _ _ _ _ => pts_nil) (fun _ _ _ _ _ => (pe_callTy (call_dictT rfl) (by rfl) T.f_dict (by decide +kernel) (pa_cons (pv 4) pa_nil)))))
      (pss_cons (ps_fldc T.cl_Moment T.n_Moment_bad (pv 0) (pe_ix ix_tupF (pv 1) pe_int (fun _ _ => rfl)))
      (pss_cons (ps_fldc T.cl_Moment T.n_Moment_names (pv 0) (pv 2))
      (pss_one (ps_fldc T.cl_Moment T.n_Moment_pending (pv 0) (pv 3)))))))), ?_⟩
  walk_at "vc"
  rename_i v0 hv0
  refine y_listR hv0 fun l1 H1 ys hy f1 s1 g1 => ?_
  cases hy
  walk_at "vc"
  rename_i H2 e2 f2 v1 hv1
  obtain ⟨a1, x1, rfl, h1a, h1b⟩ := hv1.t_
  refine y_lcT (fun D i v H' => ∃ d, v = .ref d ∧ H d = none ∧ H' d = some (.dK (ks.map entN))) (fun D ys i v H H' hD b ⟨d, e1, e2, e3⟩ => ⟨d, e1, e2, b.app hD (fun z => by cases z) e3⟩) h1a (by rw [h1b.len]; exact Nat.le_of_ble_eq_true rfl)
    (fun D i x' H' acc hi hD s3 hacc Q' q' => ?_) mg_name fun D H3 acc hD s3 hacc hl hr1 => ?_
  · have hrow : Rp H2 x' (.tuple (ks.map rowD)) := by
      cases h1b with
      | cons r1 r2 =>
        cases r2
        match i, hi with
        | 0, hi => cases hi; exact r1
    walk_at "vc"
    refine ⟨rfl, ?_⟩
    walk_at "vc"
    refine y_dictRows (hrow.same s3) nd fun d H4 f4 s4 g4 => q' _ _ s4 ⟨d, rfl, s1.free (e2.free f2 (s3.free f4)), g4⟩
  rw [h1b.len] at hl
  obtain ⟨y, rfl⟩ := one_of hl
  obtain ⟨d, rfl, fd0, hd⟩ := hr1 0 y rfl
  walk_at "vc"
  rename_i H4 e4 f4 v2 hv2
  obtain ⟨a2, x2, rfl, h2a, h2b⟩ := hv2.t_
  cases h2b
  refine y_lcT (fun D i v H => False) (fun D ys i v H H' hD b r => r) h2a (by decide) (fun D i x H' acc hi hD s1 hacc Q' q' => by cases hi) mg_name fun D2 H5 acc2 hD2 s5 hacc2 hl2 hr2 => ?_
  have e0 : acc2 = [] := List.length_eq_zero_iff.mp hl2
  subst e0
  walk_at "vc"
  rename_i H6 e6 f6 H7 e7 f7 H8 e8 f8 H9 e9 f9
  refine q H9 d l1 D D2 ?_ fd0 f1 (s1.free (e2.free f2 hD)) (s1.free (e2.free f2 (s3.free (e4.free f4 hD2)))) ⟨dx, pd, f9, ?_, ?_, ?_, ?_, ?_⟩
  · exact (((((((Same.buts s1 e2).same s3).trans e4).same s5).trans e6).trans e7).trans e8).trans e9
  · walk_at "look"
  · walk_at "look"
  · walk_at "look"
  · walk_at "look"
  · walk_at "look"
theorem c_Moment_init (T : Tx K mg) : Cal P w K mg base 1 d_Moment_init ["self", "state", "names", "pending"] [] (sp_Moment_init K) :=
  Cal.of T.d_Moment_init rfl rfl (fun _ _ _ _ _ _ us hl => match us, hl with | [_, _, _, _], _ => rfl) fun fd F => ok_Moment_init T F
theorem ok_Moment_state (T : Tx K mg) {fd : FuncData} (F : FnX K d_Moment_state fd) : FnOk P w K mg base CX0 1 (He.fAd K d_Moment_state.at_) fd ["self"] (sp_Moment_state K) := by
  refine F.ok sc_Moment_state (fun vs H Q E h => ?_) (fun cdv A outer s0 H vs Q E hr h => ?_)
  · obtain ⟨⟨p, dt, nm, l1, lt, l3⟩, ks, b, ps, rfl, _⟩ := h
    rfl
  obtain ⟨⟨p, dt, nm, l1, lt, l3⟩, ks, b, ps, rfl, ⟨dx, pd, g0, g1, g2, g3, g4, g5⟩, hl64, hb, q⟩ := h
  have hu := hr.units
  refine ⟨_, PSs.nox (pss_cons (ps_set (i := 1) sc_Moment_state.nd rfl (Or.inl rfl) (pe_callTy call_tupleF (by rfl) T.f_tuple (by decide +kernel) (pa_cons (pe_lc (own := [("rows", 3)]) (g := gName 3) (tt := tYes) (by rfl) sc_Moment_state.nd (pi_list (pe_fldc T.cl_Moment T.n_Moment_tables (pv 0))) (blkOk_by (own := [("rows", 3)]) (N := ["self", "tables", "lots", "rows"]) (sc := defScope s_Moment_state) (by decide +kernel)) (fun _ _ _ _ _ => (pg_name (i := 3) sc_Moment_state.nd rfl (Or.inl rfl))) (fun _ _ _ _ _ => pts_nil) (fun _ _ _ _ _ => (pe_callTy call_tupleF (by rfl) T.f_tuple (by decide +kernel) (pa_cons (pe_callB (cr_sortedItK rfl hu) (by rfl) T.f_sorted (by decide +kernel) (pa_cons (pe_bmF0 PySem.F.plainAttrs_dict PySem.F.slot_dict_items PySem.F.type_dict_items mt_itemsK (pv 3)) pa_nil)) pa_nil)))) pa_nil)))
      (pss_cons (ps_set (i := 2) sc_Moment_state.nd rfl (Or.inl rfl) (pe_callTy call_tupleF (by rfl) T.f_tuple (by decide +kernel) (pa_cons (pe_lc (own := [("rows", 3)]) (g := gName 3) (tt := tYes) (by rfl) sc_Moment_state.nd (pi_list (pe_fldc T.cl_Moment T.n_Moment_lots (pv 0))) (blkOk_by (own := [("rows", 3)]) (N := ["self", "tables", "lots", "rows"]) (sc := defScope s_Moment_state) (by decide +kernel)) (fun _ _ _ _ _ => (pg_name (i := 3) sc_Moment_state.nd rfl (Or.inl rfl))) (fun _ _ _ _ _ => pts_nil) (fun _ _ _ _ _ => (pe_callTy call_tupleF (by rfl) T.f_tuple (by decide +kernel) (pa_cons (pe_callB (cr_sortedItK rfl hu) (by rfl) T.f_sorted (by decide +kernel) (pa_cons (pe_bmF0 PySem.F.plainAttrs_dict PySem.F.slot_dict_items PySem.F.type_dict_items mt_itemsK (pv 3)) pa_nil)) pa_nil)))) pa_nil)))
      (pss_one (ps_ret (pe_tupF (pa_cons (pe_callTy call_tupleF (by rfl) T.f_tuple (by decide +kernel) (pa_cons (pe_fldc T.cl_Moment T.n_Moment_held (pv 0)) pa_nil)) (pa_cons (pv 1) (pa_cons (pv 2) (pa_cons (pe_fldc T.cl_Moment T.n_Moment_bad (pv 0)) pa_nil))))))))), ?_⟩
  walk_at "vc"
  refine y_lcL (fun D i v H' => Rp H' v (.tuple ((srt ks).map rowD))) (fun D ys i v H H' hD b r => r.tz (Tz.but b hD (fun o v z => by cases z))) g2 (Nat.le_of_ble_eq_true rfl) (fun D i x' H' acc hi hD s3 hacc Q' q' => ?_) mg_name fun D H3 acc hD s3 hacc hl hr1 => ?_
  · obtain rfl : x' = .ref dt := by
      match i, hi with
      | 0, hi => cases hi; rfl
    walk_at "vc"
    refine ⟨rfl, ?_⟩
    walk_at "vc"
    refine ⟨dt, _, rfl, rfl, s3 _ _ g4, fun p2 H4 f4 s4 g6 => ?_⟩
    walk_at "vc"
    refine ⟨p2, dt, ks.map fun (k : Nat) => (k : Int), rfl, g6, ?_, by rw [List.length_map]; exact hl64, ?_, fun H5 l ts ys s5 f5 py oy h5 hts => ?_⟩
    · rw [List.map_map]
      exact s4 _ _ (s3 _ _ g4)
    · intro k hk
      obtain ⟨j, hj, rfl⟩ := List.mem_map.mp hk
      have := hb j hj
      omega
    have ey := srt_unique py oy
    subst ey
    walk_at "vc"
    rename_i p6 H6 f6 s6 t6
    refine q' _ _ ((s4.trans s5).trans s6) (Rp.tup t6 ?_)
    have key : ∀ (ks : List Nat) (ts : List Addr), Paired (fun t k => TU H5 t [.int k, .int 1]) ts (ks.map fun (k : Nat) => (k : Int)) → RpL H6 (ts.map V.ref) (ks.map rowD) := by
      intro ks
      induction ks with
      | nil =>
        intro ts h
        cases h
        exact .nil
      | cons k r ih =>
        intro ts h
        cases h with
        | cons h1 h2 => exact .cons (.tup (h1.same s6) (.cons (.int _) (.cons (.int _) .nil))) (ih _ h2)
    exact key _ _ hts
  obtain ⟨y, rfl⟩ := one_of hl
  have hy := hr1 0 y rfl
  walk_at "vc"
  rename_i p4 H4 f4 s4 t4
  refine y_lcL (fun D i v H => False) (fun D ys i v H H' hD b r => r) (s4 _ _ (s3 _ _ g3)) (by decide) (fun D i x H' acc hi hD s1 hacc Q' q' => by cases hi) mg_name fun D2 H5 acc2 hD2 s5 hacc2 hl2 hr2 => ?_
  have e0 : acc2 = [] := List.length_eq_zero_iff.mp hl2
  subst e0
  walk_at "vc"
  rename_i p6 H6 f6 s6 t6 p7 H7 f7 s7 t7 p8 H8 f8 s8 t8
  have sA : Same H H8 := (((((s3.trans s4).trans s5).trans s6).trans s7).trans s8)
  refine q _ _ sA ?_
  have z1 : Rp H8 (.ref p7) (.tuple []) := Rp.tup (t7.same s8) .nil
  have z2 : Rp H8 (.ref p6) (.tuple []) := Rp.tup ((t6.same s7).same s8) .nil
  have z3 : Rp H8 (.ref p4) (.tuple [.tuple ((srt ks).map rowD)]) := Rp.tup ((((t4.same s5).same s6).same s7).same s8) (.cons (((((hy.same s4).same s5).same s6).same s7).same s8) .nil)
  exact Rp.tup t8 (.cons z1 (.cons z3 (.cons z2 (.cons (.bl _) .nil))))
theorem c_Moment_state (T : Tx K mg) : Cal P w K mg base 1 d_Moment_state ["self"] [] (sp_Moment_state K) :=
  Cal.of T.d_Moment_state rfl rfl (fun _ _ _ _ _ _ us hl => match us, hl with | [_], _ => rfl) fun fd F => ok_Moment_state T F
theorem ok_Moment_copy (T : Tx K mg) {fd : FuncData} (F : FnX K d_Moment_copy fd) : FnOk P w K mg base CX0 3 (He.fAd K d_Moment_copy.at_) fd ["self"] (sp_Moment_copy K) := by
  refine F.ok sc_Moment_copy (fun vs H Q E h => ?_) (fun cdv A outer s0 H vs Q E hr h => ?_)
  · obtain ⟨⟨p, dt, nm, l1, lt, l3⟩, ks, b, a, ps, rfl, _⟩ := h
    rfl
  obtain ⟨⟨p, dt, nm, l1, lt, l3⟩, ks, b, a, ps, rfl, hM, hN, hl64, hb, nd, q⟩ := h
  obtain ⟨dx, pd, g0, g1, g2, g3, g4, g5⟩ := id hM
  simp only at g0 g1 g2 g3 g4 hN
  refine ⟨_, PSs.nox (pss_one (ps_ret (pe_mkc (c_Moment_init T) T.mk_Moment (hr.mono (by omega)) rfl T.g_Moment (pa_cons (pe_metc0 (c_Moment_state T) (pv 0) T.cl_Moment T.m_Moment_state (hr.mono (by omega))) (pa_cons (pe_callTy call_dictF (by rfl) T.f_dict (by decide +kernel) (pa_cons (pe_fldc T.cl_Moment T.n_Moment_names (pv 0)) pa_nil)) (pa_cons (pe_fldc T.cl_Moment T.n_Moment_pending (pv 0)) pa_nil)))))), ?_⟩
  walk_at "vc"
  refine ⟨⟨p, dt, nm, l1, lt, l3⟩, ks, b, ps, rfl, hM, hl64, hb, fun v1 H1 s1 h1 => ?_⟩
  walk_at "vc"
  refine ⟨nm, _, rfl, s1 _ _ hN, fun nm' H2 f2 s2 h2 => ?_⟩
  walk_at "vc"
  intro x dx' hx hdx ne
  have sx : Same H2 (upd (upd H2 dx' (.own x)) x (.ins (He.ga K "Moment") dx' [])) := fun c o e => by
    rw [upd_ne (ne_of_none e hx), upd_ne (ne_of_none e hdx)]
    exact e
  refine ⟨x, dx', nm', v1, pd, srt ks, b, ps, rfl, upd_same, (h1.same s2).same sx, ((srt_perm ks).nodup_iff).mpr nd, ((g5.same s1).same s2).same sx, fun H3 dt' l1' lt' l3' b3 f3 f4 f5 f6 hM' => ⟨rfl, ?_⟩⟩
  have sA : Same H2 H3 := Same.but sx hx b3
  have n1 := ne_of_none h2 (sx.free f3)
  have n2 := ne_of_none h2 (sx.free f4)
  have n3 := ne_of_none h2 (sx.free f5)
  have n4 := ne_of_none h2 (sx.free f6)
  have n5 := ne_of_none h2 hx
  refine q ⟨x, dt', nm', l1', lt', l3'⟩ H3 ((s1.trans s2).trans sA) ?_ ?_ hM' (sA _ _ h2)
  · intro a ha
    simp only [Mo.all, List.mem_cons, List.not_mem_nil, or_false] at ha
    rcases ha with rfl | rfl | rfl | rfl | rfl | rfl
    · exact s1.free (s2.free hx)
    · exact s1.free (s2.free (sx.free f3))
    · exact s1.free f2
    · exact s1.free (s2.free (sx.free f4))
    · exact s1.free (s2.free (sx.free f5))
    · exact s1.free (s2.free (sx.free f6))
  · simp only [Mo.own, List.mem_cons, List.not_mem_nil, or_false, not_or]
    exact ⟨n5, n1, n2, n3, n4⟩
theorem c_Moment_copy (T : Tx K mg) : Cal P w K mg base 3 d_Moment_copy ["self"] [] (sp_Moment_copy K) :=
  Cal.of T.d_Moment_copy rfl rfl (fun _ _ _ _ _ _ us hl => match us, hl with | [_], _ => rfl) fun fd F => ok_Moment_copy T F
end
end Tn
set_option Elab.async false
set_option linter.all false
set_option maxRecDepth 100000
set_option maxHeartbeats 4000000
namespace Tn
open PySem PySem.Spec L2
/-! ### dicts of texts and numbers -/
section
variable {X : Cx} {o i : Expr} {pos : Pos} {td ty : TE}
theorem pe_din (hu : X.A.units + 1 < cLine) (hi : PE X i ty) (ho : PE X o td) (hm : behindInMarks .In o = false := by with_unfolding_all rfl) : PE X (.Compare i [.In] [o] pos) (tDIn ty td) := pe_cmp (pc_din hu hi ho) hm
theorem pt_din (hu : X.A.units + 1 < cLine) (hi : PE X i ty) (ho : PE X o td) (hm : behindInMarks .In o = false := by with_unfolding_all rfl) : PT X (.Compare i [.In] [o] pos) (tB (tDIn ty td)) := pt_cmp (pc_din hu hi ho) hm
end
section
variable {K : PySem.W.Frag} {σ : L2.St} {H : Hp} {Q : VK} {D : Ends} {td ty tv : TE} {v y : V} {a : Addr} {kvs : List (Key × V)}
theorem x_dget (q : td σ H fun x H1 => ty σ H1 fun y H2 => ∃ a v, x = .ref a ∧ DGet H2 a y (some v) ∧ Q v H2) : tDGet td ty σ H Q := q
theorem x_din (q : ty σ H fun y H1 => td σ H1 fun x H2 => ∃ a o, x = .ref a ∧ DGet H2 a y o ∧ Q (.bl o.isSome) H2) : tDIn ty td σ H Q := q
theorem x_dput (q : tv σ H fun v H1 => td σ H1 fun x H2 => ty σ H2 fun y H3 => ∃ a H4, x = .ref a ∧ DPut H3 a y v H4 ∧ D.nx σ H4) : sDPut td ty tv D σ H := q
theorem y_dgetS {s : Str} (h : H a = some (.dK kvs)) (l : valV kvs (Sum.inr s) = some v) (q : Q v H) : ∃ b w, V.ref a = .ref b ∧ DGet H b (.str s) (some w) ∧ Q w H := ⟨a, v, rfl, l ▸ DGet.k (k := Sum.inr s) h, q⟩
theorem y_dgetI {j : Int} (h : H a = some (.dK kvs)) (l : valV kvs (Sum.inl j) = some v) (q : Q v H) : ∃ b w, V.ref a = .ref b ∧ DGet H b (.int j) (some w) ∧ Q w H := ⟨a, v, rfl, l ▸ DGet.k (k := Sum.inl j) h, q⟩
theorem y_dinI {j : Int} {R : Option V → Prop} (h : H a = some (.dK kvs)) (q : R (valV kvs (Sum.inl j))) : ∃ b o, V.ref a = .ref b ∧ DGet H b (.int j) o ∧ R o := ⟨a, _, rfl, DGet.k (k := Sum.inl j) h, q⟩
theorem y_dputS {s : Str} {k : Hp → Prop} (h : H a = some (.dK kvs)) (l : kvs.length ≤ 1000) (q : ∀ H', But a H H' → H' a = some (.dK (putK kvs (Sum.inr s) v)) → k H') : ∃ b H4, V.ref a = .ref b ∧ DPut H b (.str s) v H4 ∧ k H4 := ⟨a, _, rfl, DPut.k (k := Sum.inr s) h (small1000 l), q _ But.upd upd_same⟩
theorem y_dputI {j : Int} {k : Hp → Prop} (h : H a = some (.dK kvs)) (l : kvs.length ≤ 1000) (q : ∀ H', But a H H' → H' a = some (.dK (putK kvs (Sum.inl j) v)) → k H') : ∃ b H4, V.ref a = .ref b ∧ DPut H b (.int j) v H4 ∧ k H4 := ⟨a, _, rfl, DPut.k (k := Sum.inl j) h (small1000 l), q _ But.upd upd_same⟩
theorem x_retN0 (q : D.rt .non H) : tRetN D σ H := q
end
theorem keyN {k a : Nat} : ((Sum.inl (k : Int) : Key) = Sum.inl (a : Int)) ↔ k = a := by
  constructor
  · intro h
    injection h with h
    omega
  · intro h
    rw [h]
theorem valV_entN (a : Nat) : ∀ ks : List Nat, (valV (ks.map entN) (Sum.inl (a : Int))).isSome = decide (a ∈ ks)
  | [] => rfl
  | k :: r => by
    rw [List.map_cons]
    by_cases h : k = a
    · rw [valV_pos (show (entN k).1 = Sum.inl (a : Int) from keyN.mpr h)]
      simp [h]
    · rw [valV_neg (show ¬ (entN k).1 = Sum.inl (a : Int) from fun z => h (keyN.mp z)), valV_entN a r]
      simp [List.mem_cons, Ne.symm h]
/-- the table after a key is put -/
def addK (ks : List Nat) (a : Nat) : List Nat := if a ∈ ks then ks else ks ++ [a]
theorem putK_entN (ks : List Nat) (a : Nat) : putK (ks.map entN) (Sum.inl (a : Int)) (.int 1) = (addK ks a).map entN := by
  unfold putK addK
  have e := valV_entN a ks
  rw [valV_any, e]
  by_cases h : a ∈ ks
  · rw [if_pos h, if_pos (by simpa using h)]
    rw [List.map_map]
    refine List.map_congr_left fun k _ => ?_
    simp only [Function.comp]
    split
    · rename_i z
      rfl
    · rfl
  · rw [if_neg h, if_neg (by simpa using h), List.map_append]
    rfl
theorem addK_nodup {ks : List Nat} {a : Nat} (h : ks.Nodup) : (addK ks a).Nodup := by
  unfold addK
  split
  · exact h
  · rename_i z
    rw [List.nodup_append]
    exact ⟨h, by simp, fun x hx y hy e => by
      rw [List.mem_singleton] at hy
      subst hy
      subst e
      exact z hx⟩
theorem hu1 {k : Nat} {A : Around} (r : Room k A) : A.units + 1 < cLine := by have := r.un; omega
/-! ### the runner -/
def RunAt (K : PySem.W.Frag) (H : Hp) (x : V) (n s : Nat) : Prop := ∃ r dx g, x = .ref r ∧ H r = some (.ins (He.ga K "Runner") dx [("game", g)]) ∧ GM K H g n s
section
variable {K : PySem.W.Frag} {H H' : Hp} {Q : VK} {x : V} {n s : Nat}
theorem RunAt.fz (z : Fz K H H') (h : RunAt K H x n s) : RunAt K H' x n s := by
  obtain ⟨r, dx, g, e, h1, h2⟩ := h
  exact ⟨r, dx, g, e, z _ _ (Or.inr (Or.inr (Or.inl rfl))) h1, h2.fz z⟩
theorem RunAt.same (s : Same H H') {n s : Nat} (h : RunAt K H x n s) : RunAt K H' x n s := h.fz (Fz.same (by assumption))
theorem y_game (h : RunAt K H x n s) (q : ∀ g, GM K H g n s → Q g H) : rFldC (He.ga K "Runner") "game" x H Q := by
  obtain ⟨r, dx, g, rfl, h1, h2⟩ := h
  exact ⟨r, dx, _, g, rfl, h1, rfl, q g h2⟩
theorem y_runM {m : Str} {k : Prop} (h : RunAt K H x n s) (l : ∀ g : V, ([("game", g)] : List (Str × V)).lookup m = none) (q : k) : rMeth (He.ga K "Runner") m x H k := by
  obtain ⟨r, dx, g, rfl, h1, h2⟩ := h
  exact ⟨r, dx, _, rfl, h1, l g, q⟩
end
local macro_rules | `(tactic| walk_at "tz") => `(tactic| first
  | ((refine' Tz.same ?s); (case s => with_reducible assumption))
  | ((refine' Tz.but ?b ?h ?n); (case b => with_reducible assumption); (case h => walk_at "look"); (case n => (intro o v z; cases z))))
local macro_rules | `(tactic| walk_at "fz") => `(tactic| first
  | ((refine' Fz.same ?s); (case s => with_reducible assumption))
  | ((refine' Fz.but ?b ?h ?n); (case b => with_reducible assumption); (case h => walk_at "look"); (case n => first | exact nf_lst | exact nf_dK | exact nf_ext | assumption)))
local macro_rules | `(tactic| walk_at "look") => `(tactic| first
  | with_reducible assumption
  | ((with_reducible refine' Same.app ?s ?m); (case s => with_reducible assumption); (case m => walk_at "look"))
  | ((with_reducible refine' RR.fz ?z ?m); (case z => walk_at "fz"); (case m => walk_at "look"))
  | ((with_reducible refine' Rp.tz ?z ?m); (case z => walk_at "tz"); (case m => walk_at "look"))
  | ((with_reducible refine' TU.tz ?z ?m); (case z => walk_at "tz"); (case m => walk_at "look"))
  | ((with_reducible refine' RpL.tz ?z ?m); (case z => walk_at "tz"); (case m => walk_at "look"))
  | ((with_reducible refine' GM.fz ?z ?m); (case z => walk_at "fz"); (case m => walk_at "look"))
  | ((with_reducible refine' But.app' ?b ?n ?m); (case b => with_reducible assumption); (case n => first | assumption | (refine Ne.symm ?_; assumption)); (case m => walk_at "look"))
  | ((with_reducible refine' But.app ?b ?l ?d ?m); (case b => with_reducible assumption); (case m => walk_at "look"); (case l => walk_at "look"); (case d => (intro z; cases z))))
local macro_rules | `(tactic| walk_at "rp") => `(tactic| first
  | (with_reducible assumption)
  | walk_at "look"
  | exact Rp.bl _ | exact Rp.int _ | exact Rp.str _ | exact Rp.non
  | ((refine' Rp.tup ?h ?l); (case h => walk_at "look"); (case l => walk_at "rpl")))
local macro_rules | `(tactic| walk_at "rpl") => `(tactic| first
  | exact RpL.nil
  | ((refine' RpL.cons ?h ?l); (case h => walk_at "rp"); (case l => walk_at "rpl")))
local macro_rules | `(tactic| walk_at "vc") => `(tactic| repeat (first
  | with_reducible refine' x_seq ?_
  | with_reducible refine' x_ifS ?_
  | with_reducible refine' x_asg ?_
  | with_reducible refine' x_drop ?_
  | with_reducible refine' x_ret ?_
  | with_reducible refine' x_name ?_
  | with_reducible refine' x_c ?_
  | ((with_reducible refine' x_var ?h ?_); (case h => rfl))
  | with_reducible refine' x_op ?_
  | with_reducible refine' x_un ?_
  | with_reducible refine' x_tup ?_
  | with_reducible refine' x_lst ?_
  | ((with_reducible refine' x_gtup ?h ?l ?_); (case h => walk_at "look"); (case l => rfl))
  | ((with_reducible refine' x_gtup' ?h ?l ?_); (case h => walk_at "look"); (case l => rfl))
  | with_reducible refine' x_gcons ?_
  | with_reducible refine' x_gnil ?_
  | with_reducible refine' x_nil ?_
  | with_reducible refine' x_cons ?_
  | with_reducible refine' x_call ?_
  | with_reducible refine' x_meth ?_
  | ((with_reducible refine' x_methv ?h ?l ?_); (case h => walk_at "look"); (case l => first | rfl | decide +kernel))
  | with_reducible refine' x_make ?_
  | with_reducible refine' x_cb ?_
  | with_reducible refine' x_test ?_
  | with_reducible refine' x_B ?_
  | with_reducible refine' x_and ?_
  | with_reducible refine' x_or ?_
  | with_reducible refine' x_not ?_
  | with_reducible refine' x_if ?_
  | with_reducible refine' x_andV ?_
  | with_reducible refine' x_orV ?_
  | with_reducible refine' x_notV ?_
  | with_reducible refine' x_next ?_
  | with_reducible refine' x_gfldc ?_
  | with_reducible refine' x_bmF ?_
  | with_reducible refine' x_bmF0 ?_
  | ((with_reducible refine' y_tyL ?h ?_); (case h => walk_at "look"))
  | ((with_reducible refine' y_tyD ?h ?_); (case h => walk_at "look"))
  | ((with_reducible refine' y_lenL ?h ?_); (case h => walk_at "look"))
  | ((with_reducible refine' y_lenR ?h ?_); (case h => walk_at "look"))
  | with_reducible refine' x_forT ?_
  | with_reducible refine' x_forL ?_
  | with_reducible refine' x_lcT ?_
  | with_reducible refine' x_lcL ?_
  | ((with_reducible refine' y_tupleL ?h ?_); (case h => walk_at "look"); intro _ _ _ _ _)
  | ((with_reducible refine' y_tupleR ?h ?_); (case h => walk_at "look"))
  | ((with_reducible refine' y_tupleT ?h ?_); (case h => walk_at "look"))
  | with_reducible refine' x_cont ?_
  | with_reducible refine' x_dget ?_
  | with_reducible refine' x_din ?_
  | with_reducible refine' x_dput ?_
  | with_reducible refine' x_sfldc ?_
  | with_reducible refine' x_bl ?_
  | ((with_reducible refine' x_fldc ?h ?l ?_); (case h => walk_at "look"); (case l => first | rfl | decide +kernel))
  | ((with_reducible refine' x_setc ?h ?l ?_); (case h => walk_at "look"); (case l => exact Nat.le_of_ble_eq_true rfl); intro _ _ _)
  | ((with_reducible refine' y_num ?h ?_); (case h => walk_at "look"))
  | ((with_reducible refine' y_den ?h ?_); (case h => walk_at "look"))
  | with_reducible refine' y_I0 ?_
  | ((with_reducible refine' y_ixS ?h ?e ?a ?_); (case h => walk_at "look"); (case e => rfl); (case a => rfl))
  | ((with_reducible refine' y_ixI ?h ?e ?a ?_); (case h => walk_at "look"); (case e => rfl); (case a => rfl))
  | ((with_reducible refine' y_ixB ?h ?e ?a ?_); (case h => walk_at "look"); (case e => rfl); (case a => rfl))
  | ((with_reducible refine' y_ixR ?h ?e ?a ?_); (case h => walk_at "look"); (case e => rfl); (case a => rfl); intro _ _)
  | ((with_reducible refine' y_ixT ?h ?a ?_); (case h => walk_at "look"); (case a => rfl))
  | ((with_reducible refine' y_eq ?s ?_); (case s => rfl))
  | ((with_reducible refine' y_ne ?s ?_); (case s => rfl))
  | ((with_reducible refine' x_rtup ?l ?_); (case l => exact Nat.le_of_ble_eq_true rfl); intro _ _ _ _ _)
  | ((with_reducible refine' x_rlst ?l ?_); (case l => exact Nat.le_of_ble_eq_true rfl); intro _ _ _ _ _)
  | ((with_reducible refine' ite_t ?h ?_); (case h => first | with_reducible rfl | assumption | exact decide_eq_true (by omega) | decide +kernel | rfl))
  | ((with_reducible refine' ite_f ?h ?_); (case h => first | with_reducible rfl | assumption | exact decide_eq_false (by omega) | decide +kernel | rfl))))
def sp_Runner_init (K : PySem.W.Frag) : Sp := fun vs H Q _ => ∃ (p dx : Addr) (g : V) (n s : Nat), vs = [.ref p, g] ∧ H p = some (.ins (He.ga K "Runner") dx []) ∧ GM K H g n s ∧ ∀ H', But p H H' → H' p = some (.ins (He.ga K "Runner") dx [("game", g)]) → Q .non H'
def sp_Runner_table (K : PySem.W.Frag) : Sp := fun vs H Q _ => ∃ (x : V) (n s : Nat), vs = [x, .str "t"] ∧ RunAt K H x n s ∧ ∀ H', Same H H' → Q (.int 0) H'
def sp_combine (K : PySem.W.Frag) : Sp := fun vs H Q _ => (∃ l r : Int, vs = [.str "+", .int l, .int r] ∧ Q (.int ((l + r) % 65536)) H) ∨ ∃ l r : Int, vs = [.str "mod", .int l, .int r] ∧ 0 < r ∧ Q (.int (l % r)) H
section
variable {P : Program} {w : World} {K : PySem.W.Frag} {mg : Str → Option Value} {base : Heap}
theorem sc_Runner_init : FnScope ["self", "game"] ["self", "game"] (defScope s_Runner_init) := ⟨rfl, rfl, rfl, by decide +kernel, rfl, by decide +kernel, by decide +kernel⟩
theorem sc_Runner_table : FnScope ["self", "name", "row"] ["self", "name"] (defScope s_Runner_table) := ⟨rfl, rfl, rfl, by decide +kernel, rfl, by decide +kernel, by decide +kernel⟩
theorem sc_combine : FnScope ["sign", "left", "right"] ["sign", "left", "right"] (defScope s_combine) := ⟨rfl, rfl, rfl, by decide +kernel, rfl, by decide +kernel, by decide +kernel⟩
theorem ok_Runner_init (T : Tx K mg) {fd : FuncData} (F : FnX K d_Runner_init fd) : FnOk P w K mg base CX0 1 (He.fAd K d_Runner_init.at_) fd ["self", "game"] (sp_Runner_init K) := by
  refine F.ok sc_Runner_init (fun vs H Q E h => ?_) (fun cdv A outer s0 H vs Q E hr h => ?_)
  · obtain ⟨p, dx, g, n, s, rfl, _⟩ := h
    rfl
  obtain ⟨p, dx, g, n, s, rfl, hp, hg, q⟩ := h
  refine ⟨_, PSs.nox (pss_one (ps_fldc T.cl_Runner T.n_Runner_game (pv 0) (pv 1))), ?_⟩
  walk_at "vc"
  exact q _ (by assumption) (by assumption)
theorem c_Runner_init (T : Tx K mg) : Cal P w K mg base 1 d_Runner_init ["self", "game"] [] (sp_Runner_init K) :=
  Cal.of T.d_Runner_init rfl rfl (fun _ _ _ _ _ _ us hl => match us, hl with | [_, _], _ => rfl) fun fd F => ok_Runner_init T F
theorem ok_Runner_table (T : Tx K mg) {fd : FuncData} (F : FnX K d_Runner_table fd) : FnOk P w K mg base CX0 1 (He.fAd K d_Runner_table.at_) fd ["self", "name"] (sp_Runner_table K) := by
  refine F.ok sc_Runner_table (fun vs H Q E h => ?_) (fun cdv A outer s0 H vs Q E hr h => ?_)
  · obtain ⟨x, n, s, rfl, _⟩ := h
    rfl
  obtain ⟨x, n, s, rfl, hx, q⟩ := h
  refine ⟨_, PSs.nox (pss_one (ps_ret (pe_bmF PySem.F.plainAttrs_list PySem.F.slot_list_index PySem.F.type_list_index mt_index (pe_lc (own := [("row", 2)]) (g := gName 2) (tt := tYes) (by rfl) sc_Runner_table.nd (pi_tup (pe_fldc T.cl_Game T.n_Game_tables (pe_fldc T.cl_Runner T.n_Runner_game (pv 0)))) (blkOk_by (own := [("row", 2)]) (N := ["self", "name", "row"]) (sc := defScope s_Runner_table) (by decide +kernel)) (fun _ _ _ _ _ => (pg_name (i := 2) sc_Runner_table.nd rfl (Or.inl rfl))) (fun _ _ _ _ _ => pts_nil) (fun _ _ _ _ _ => (pe_ix ix_tupF (pv 2) pe_int (fun _ _ => rfl)))) (pa_cons (pv 1) pa_nil)))), ?_⟩
  walk_at "vc"
  refine y_game hx fun g hg => ?_
  refine y_gtab hg fun u h1 => ?_
  obtain ⟨a1, x1, rfl, h1a, h1b⟩ := h1.t_
  refine y_lcT (fun D i v H => v = .str "t") (fun D ys i v H H' hD b r => r) h1a (by rw [h1b.len]; exact Nat.le_of_ble_eq_true rfl) (fun D i x H' acc hi hD s1 hacc Q' q' => ?_) mg_name fun D H1 acc hD s1 hacc hl hr1 => ?_
  · obtain ⟨d, hd, hr'⟩ := h1b.get' hi
    have hd : d = gTab n := by
      match i, hd with
      | 0, hd => exact (Option.some.inj hd).symm
      | i + 1, hd => cases hd
    subst hd
    have hr'' := hr'.same s1
    walk_at "vc"
    refine ⟨rfl, ?_⟩
    walk_at "vc"
    exact q' _ _ (fun _ _ e => e) rfl
  have hl : acc.length = 1 := hl.trans h1b.len
  obtain ⟨y, rfl⟩ := one_of hl
  have ey := hr1 0 y rfl
  subst ey
  walk_at "vc"
  refine ⟨D, _, .str "t", 0, .str "t", rfl, rfl, SqL.of hacc, rfl, rfl, rfl, by decide, fun m z h => by omega, ?_⟩
  exact q _ s1
theorem c_Runner_table (T : Tx K mg) : Cal P w K mg base 1 d_Runner_table ["self", "name"] [] (sp_Runner_table K) :=
  Cal.of T.d_Runner_table rfl rfl (fun _ _ _ _ _ _ us hl => match us, hl with | [_, _], _ => rfl) fun fd F => ok_Runner_table T F
theorem ok_combine (T : Tx K mg) {fd : FuncData} (F : FnX K d_combine fd) : FnOk P w K mg base CX0 1 (He.fAd K d_combine.at_) fd ["sign", "left", "right"] (sp_combine K) := by
  refine F.ok sc_combine (fun vs H Q E h => ?_) (fun cdv A outer s0 H vs Q E hr h => ?_)
  · obtain ⟨l, r, rfl, _⟩ | ⟨l, r, rfl, _⟩ := h <;> rfl
  refine ⟨_, PSs.nox (pss_cons (ps_if (pt_cmpR op_eq (pv 0) pe_str (nomark _)) (pss_one (ps_ret (pe_op op_mod (pe_op op_add (pv 1) (pv 2)) (pe_op op_add (pe_gi (by rfl) T.i_GREATEST) pe_int)))) pss_nil)
      (pss_cons (ps_if (pt_cmpR op_eq (pv 0) pe_str (nomark _)) (pss_one (ps_ret (pe_callB (call_max2 rfl) (by rfl) T.f_max (by decide +kernel) (pa_cons pe_int (pa_cons (pe_op op_sub (pv 1) (pv 2)) pa_nil))))) pss_nil)
      (pss_cons (ps_if (pt_cmpR op_eq (pv 0) pe_str (nomark _)) (pss_one (ps_ret (pe_op op_mod (pe_op op_mul (pv 1) (pv 2)) (pe_op op_add (pe_gi (by rfl) T.i_GREATEST) pe_int)))) pss_nil)
      (pss_cons (ps_if (pt_cmpR op_eq (pv 0) pe_str (nomark _)) (pss_one (ps_ret (pe_callTy call_int1 (by rfl) T.f_int (by decide +kernel) (pa_cons (pe_cmpR op_lt (pv 1) (pv 2) (nomark _)) pa_nil)))) pss_nil)
      (pss_cons (ps_if (pt_cmpR op_eq (pv 0) pe_str (nomark _)) (pss_one (ps_ret (pe_callTy call_int1 (by rfl) T.f_int (by decide +kernel) (pa_cons (pe_cmpR op_eq (pv 1) (pv 2) (nomark _)) pa_nil)))) pss_nil)
      (pss_cons (ps_if (pt_cmpR op_eq (pv 2) pe_int (nomark _)) (pss_one (ps_ret pe_int)) pss_nil)
      (pss_cons (ps_if (pt_cmpR op_eq (pv 0) pe_str (nomark _)) (pss_one (ps_ret (pe_op op_fdiv (pv 1) (pv 2)))) pss_nil)
      (pss_one (ps_ret (pe_op op_mod (pv 1) (pv 2))))))))))), ?_⟩
  obtain ⟨l, r, rfl, q⟩ | ⟨l, r, rfl, hr0, q⟩ := h
  · walk_at "vc"
    refine y_I (by decide) ?_
    exact q
  · walk_at "vc"
    refine ite_f (decide_eq_false fun z => by injection z with z; omega) ?_
    walk_at "vc"
    exact y_I hr0 q
theorem c_combine (T : Tx K mg) : Cal P w K mg base 1 d_combine ["sign", "left", "right"] [] (sp_combine K) :=
  Cal.of T.d_combine rfl rfl (fun _ _ _ _ _ _ us hl => match us, hl with | [_, _, _], _ => rfl) fun fd F => ok_combine T F
end
/-! ### values -/
inductive EV (n : Nat) (ks : List Nat) (a : Nat) : Nat → PyData → Int → Prop
  | num (k : Nat) (i : Int) : EV n ks a k (eNum i) i
  | loc (k : Nat) : EV n ks a k eA a
  | has (k : Nat) : EV n ks a (k + 1) eHas (if a ∈ ks then 1 else 0)
  | plus (k s : Nat) : s < 1000 → EV n ks a (k + 1) (ePlus s) ((a + s : Nat) : Int)
  | mdl (k s : Nat) : s < 1000 → EV n ks a (k + 2) (eShift n s) (((a + s) % n : Nat) : Int)
theorem EV.up {n : Nat} {ks : List Nat} {a k : Nat} {d : PyData} {i : Int} (h : EV n ks a k d i) : EV n ks a (k + 1) d i := by
  cases h with
  | num => exact .num _ _
  | loc => exact .loc _
  | has => exact .has _
  | plus _ s h => exact .plus _ _ h
  | mdl _ s h => exact .mdl _ _ h
def sp_Runner_value (K : PySem.W.Frag) (k : Nat) : Sp := fun vs H Q _ => ∃ (x e : V) (d : PyData) (i : Int) (m : Mo) (ks : List Nat) (b : Bool) (ps : List PyData) (a n s : Nat), vs = [x, e, .ref m.p] ∧ RunAt K H x n s ∧ Rp H e d ∧ MomAt K H m ks b ps ∧ NmAt H m.nm a ∧ a < n ∧ n < 1000 ∧ EV n ks a k d i ∧
  ∀ H', Same H H' → Q (.int i) H'
section
variable {P : Program} {w : World} {K : PySem.W.Frag} {mg : Str → Option Value} {base : Heap}
theorem sc_Runner_value : FnScope ["self", "expression", "moment", "kind", "at", "key", "left"] ["self", "expression", "moment"] (defScope s_Runner_value) := ⟨rfl, rfl, rfl, by decide +kernel, rfl, by decide +kernel, by decide +kernel⟩
theorem ok_Runner_value0 (T : Tx K mg) {fd : FuncData} (F : FnX K d_Runner_value fd) : FnOk P w K mg base CX0 1 (He.fAd K d_Runner_value.at_) fd ["self", "expression", "moment"] (sp_Runner_value K 0) := by
  refine F.ok sc_Runner_value (fun vs H Q E h => ?_) (fun cdv A outer s0 H vs Q E hr h => ?_)
  · obtain ⟨x, e, d, i, ⟨p, dt, nm, l1, lt, l3⟩, ks, b, ps, a, n, s, rfl, _⟩ := h
    rfl
  obtain ⟨x, e, d, i, ⟨p, dt, nm, l1, lt, l3⟩, ks, b, ps, a, n, s, rfl, hx, he, hM, hN, han, hn, ev, q⟩ := h
  obtain ⟨dx, pd, g0, g1, g2, g3, g4, g5⟩ := id hM
  simp only at g0 g1 g2 g3 g4 hN
  have hu := hu1 hr
  refine ⟨_, PSs.nox (pss_cons (ps_set (i := 3) sc_Runner_value.nd rfl (Or.inl rfl) (pe_ix ix_tupF (pv 1) pe_int (fun _ _ => rfl)))
      (pss_cons (ps_if (pt_cmpR op_eq (pv 3) pe_str (nomark _)) (pss_one (ps_ret (pe_ix ix_tupF (pv 1) pe_int (fun _ _ => rfl)))) pss_nil)
      (pss_cons (ps_if (pt_cmpR op_eq (pv 3) pe_str (nomark _)) (pss_one (ps_ret (pe_dget hu (pe_fldc T.cl_Moment T.n_Moment_names (pv 2)) (pe_ix ix_tupF (pv 1) pe_int (fun _ _ => rfl)) (fun _ _ => rfl)))) pss_nil)
      (pss_cons (ps_if (pt_cmpR op_eq (pv 3) pe_str (nomark _)) pss_never pss_nil)
      (pss_cons (ps_if (PW.pt (pw_or (pt_cmpR op_eq (pv 3) pe_str (nomark _)) (pw_or1 (pt_cmpR op_eq (pv 3) pe_str (nomark _))))) pss_never pss_nil)
      pss_never))))), ?_⟩
  cases ev with
  | num _ i =>
    walk_at "vc"
    exact q _ (fun _ _ e => e)
  | loc _ =>
    walk_at "vc"
    refine y_dgetS (s := "a") (v := .int a) hN (by rfl) ?_
    exact q _ (fun _ _ e => e)
theorem ok_Runner_valueS (T : Tx K mg) {k : Nat} (ih : Cal P w K mg base (k + 1) d_Runner_value ["self", "expression", "moment"] [] (sp_Runner_value K k)) {fd : FuncData} (F : FnX K d_Runner_value fd) :
    FnOk P w K mg base CX0 (k + 2) (He.fAd K d_Runner_value.at_) fd ["self", "expression", "moment"] (sp_Runner_value K (k + 1)) := by
  refine F.ok sc_Runner_value (fun vs H Q E h => ?_) (fun cdv A outer s0 H vs Q E hr h => ?_)
  · obtain ⟨x, e, d, i, ⟨p, dt, nm, l1, lt, l3⟩, ks, b, ps, a, n, s, rfl, _⟩ := h
    rfl
  obtain ⟨x, e, d, i, ⟨p, dt, nm, l1, lt, l3⟩, ks, b, ps, a, n, s, rfl, hx, he, hM, hN, han, hn, ev, q⟩ := h
  obtain ⟨dx, pd, g0, g1, g2, g3, g4, g5⟩ := id hM
  simp only at g0 g1 g2 g3 g4 hN
  have hu := hu1 hr
  refine ⟨_, PSs.nox (pss_cons (ps_set (i := 3) sc_Runner_value.nd rfl (Or.inl rfl) (pe_ix ix_tupF (pv 1) pe_int (fun _ _ => rfl)))
      (pss_cons (ps_if (pt_cmpR op_eq (pv 3) pe_str (nomark _)) (pss_one (ps_ret (pe_ix ix_tupF (pv 1) pe_int (fun _ _ => rfl)))) pss_nil)
      (pss_cons (ps_if (pt_cmpR op_eq (pv 3) pe_str (nomark _)) (pss_one (ps_ret (pe_dget hu (pe_fldc T.cl_Moment T.n_Moment_names (pv 2)) (pe_ix ix_tupF (pv 1) pe_int (fun _ _ => rfl)) (fun _ _ => rfl)))) pss_nil)
      (pss_cons (ps_if (pt_cmpR op_eq (pv 3) pe_str (nomark _)) pss_never pss_nil)
      (pss_cons (ps_if (PW.pt (pw_or (pt_cmpR op_eq (pv 3) pe_str (nomark _)) (pw_or1 (pt_cmpR op_eq (pv 3) pe_str (nomark _))))) (pss_cons (ps_set (i := 4) sc_Runner_value.nd rfl (Or.inl rfl) (pe_metc (c_Runner_table T) (pv 0) T.cl_Runner T.m_Runner_table (hr.mono (by omega)) (pa_cons (pe_ix ix_tupF (pv 1) pe_int (fun _ _ => rfl)) pa_nil)))
      (pss_cons (ps_set (i := 5) sc_Runner_value.nd rfl (Or.inl rfl) (pe_op op_mod (pe_metc ih (pv 0) T.cl_Runner T.m_Runner_value (hr.mono (by omega)) (pa_cons (pe_ix ix_tupF (pv 1) pe_int (fun _ _ => rfl)) (pa_cons (pv 2) pa_nil))) (pe_ix ix_tupF (pe_ix ix_tupF (pe_fldc T.cl_Game T.n_Game_tables (pe_fldc T.cl_Runner T.n_Runner_game (pv 0))) (pv 4) (fun _ _ => rfl)) pe_int (fun _ _ => rfl))))
      (pss_cons (ps_if (pt_cmpR op_eq (pv 3) pe_str (nomark _)) (pss_one (ps_ret (pe_callTy call_int1 (by rfl) T.f_int (by decide +kernel) (pa_cons (pe_din hu (pv 5) (pe_ix ix_listF (pe_fldc T.cl_Moment T.n_Moment_tables (pv 2)) (pv 4) (fun _ _ => rfl))) pa_nil)))) pss_nil)
      pss_never))) pss_nil)
      (pss_cons (ps_set (i := 6) sc_Runner_value.nd rfl (Or.inl rfl) (pe_metc ih (pv 0) T.cl_Runner T.m_Runner_value (hr.mono (by omega)) (pa_cons (pe_ix ix_tupF (pv 1) pe_int (fun _ _ => rfl)) (pa_cons (pv 2) pa_nil))))
      (pss_one (ps_ret (pe_cal (c_combine T) (hr.mono (by omega)) rfl T.g_combine (pa_cons (pv 3) (pa_cons (pv 6) (pa_cons (pe_metc ih (pv 0) T.cl_Runner T.m_Runner_value (hr.mono (by omega)) (pa_cons (pe_ix ix_tupF (pv 1) pe_int (fun _ _ => rfl)) (pa_cons (pv 2) pa_nil))) pa_nil)))))))))))), ?_⟩
  cases ev with
  | num _ i =>
    walk_at "vc"
    exact q _ (fun _ _ e => e)
  | loc _ =>
    walk_at "vc"
    refine y_dgetS (s := "a") (v := .int a) hN (by rfl) ?_
    exact q _ (fun _ _ e => e)
  | has _ =>
    walk_at "vc"
    refine y_runM hx (fun _ => rfl) ?_
    walk_at "vc"
    refine ⟨_, n, s, rfl, hx, fun H1 s1 => ?_⟩
    walk_at "vc"
    refine y_runM (hx.same s1) (fun _ => rfl) ?_
    walk_at "vc"
    rename_i v1 hv1
    refine ⟨_, _, eA, _, ⟨p, dt, nm, l1, lt, l3⟩, ks, b, ps, a, n, s, rfl, hx.same s1, hv1, hM.same s1, hN.same s1, han, hn, .loc _, fun H2 s2 => ?_⟩
    have s12 : Same H H2 := s1.trans s2
    walk_at "vc"
    refine y_game (hx.same s12) fun g hg => ?_
    walk_at "vc"
    refine y_gtab hg fun u hu1 => ?_
    walk_at "vc"
    rename_i v2 hv2
    walk_at "vc"
    refine y_I (by omega : (0 : Int) < (n : Int)) ?_
    have e0 : (a : Int) % (n : Int) = (a : Int) := by
      rw [← Int.natCast_emod, Nat.mod_eq_of_lt han]
    rw [e0]
    walk_at "vc"
    refine y_ixL (s12 _ _ g2) (i := 0) (v := .ref dt) rfl ?_
    refine y_dinI (s12 _ _ g4) ?_
    rw [valV_entN]
    walk_at "vc"
    refine .inr ⟨_, rfl, ?_⟩
    have e1 : (if decide (a ∈ ks) = true then (1 : Int) else 0) = if a ∈ ks then 1 else 0 := by simp
    rw [e1]
    exact q _ s12
  | plus _ s' hs' =>
    walk_at "vc"
    refine y_runM hx (fun _ => rfl) ?_
    walk_at "vc"
    rename_i v1 hv1
    refine ⟨_, _, eA, _, ⟨p, dt, nm, l1, lt, l3⟩, ks, b, ps, a, n, s, rfl, hx, hv1, hM, hN, han, hn, .loc _, fun H1 s1 => ?_⟩
    walk_at "vc"
    refine y_runM (hx.same s1) (fun _ => rfl) ?_
    walk_at "vc"
    rename_i v2 hv2
    refine ⟨_, _, _, _, ⟨p, dt, nm, l1, lt, l3⟩, ks, b, ps, a, n, s, rfl, hx.same s1, hv2, hM.same s1, hN.same s1, han, hn, .num _ _, fun H2 s2 => ?_⟩
    walk_at "vc"
    refine .inl ⟨_, _, rfl, ?_⟩
    have e0 : ((a : Int) + (s' : Int)) % 65536 = ((a + s' : Nat) : Int) := by omega
    rw [e0]
    exact q _ (s1.trans s2)
  | mdl k' s' hs' =>
    walk_at "vc"
    refine y_runM hx (fun _ => rfl) ?_
    walk_at "vc"
    rename_i v1 hv1
    refine ⟨_, _, _, _, ⟨p, dt, nm, l1, lt, l3⟩, ks, b, ps, a, n, s, rfl, hx, hv1, hM, hN, han, hn, .plus _ _ hs', fun H1 s1 => ?_⟩
    walk_at "vc"
    refine y_runM (hx.same s1) (fun _ => rfl) ?_
    walk_at "vc"
    rename_i v2 hv2
    refine ⟨_, _, _, _, ⟨p, dt, nm, l1, lt, l3⟩, ks, b, ps, a, n, s, rfl, hx.same s1, hv2, hM.same s1, hN.same s1, han, hn, .num _ _, fun H2 s2 => ?_⟩
    walk_at "vc"
    refine .inr ⟨_, _, rfl, by omega, ?_⟩
    rw [← Int.natCast_emod]
    exact q _ (s1.trans s2)
end
/-! ### pending statements -/
def rForRev (K : PySem.W.Frag) (g : TG) (tb : TS) (D : Ends) (σ : L2.St) (x : V) (H1 : Hp) : Prop := ∃ (a : Addr) (xs : List V), x = .ref a ∧ ((SqL K H1 a xs ∧ ∃ W : Nat → Nat → L2.St → Hp → Prop, (∃ m, W 0 m σ H1) ∧ ∀ i m σ H, W i m σ H →
  ((Itv K a xs.length).stop i H ∧ D.nx σ H) ∨ ((Itv K a xs.length).go i H ∧ ∃ N : L2.St → Hp → Prop, (∀ σ' H', N σ' H' → ∃ m', m' < m ∧ W (i + 1) m' σ' H') ∧ ∀ x H', (Itv K a xs.length).yld i H x H' → g x σ H' fun σ2 H2 => tb { D with nx := N, ct := N, bk := D.nx } σ2 H2)) ∨
  (SqT K H1 a xs ∧ ∃ W : Nat → Nat → L2.St → Hp → Prop, (∃ m, W 0 m σ H1) ∧ ∀ i m σ H, W i m σ H →
  ((RT.ItvT K a xs.length).stop i H ∧ D.nx σ H) ∨ ((RT.ItvT K a xs.length).go i H ∧ ∃ N : L2.St → Hp → Prop, (∀ σ' H', N σ' H' → ∃ m', m' < m ∧ W (i + 1) m' σ' H') ∧ ∀ x H', (RT.ItvT K a xs.length).yld i H x H' → g x σ H' fun σ2 H2 => tb { D with nx := N, ct := N, bk := D.nx } σ2 H2)))
section
variable {K : PySem.W.Frag} {σ : L2.St} {H : Hp} {Q : VK} {D : Ends} {te : TE} {tb : TS} {g : TG}
theorem x_forRev (q : te σ H fun x H1 => rForRev K g tb D σ x H1) : tFor (RT.iRevA K te) g tb D σ H := q
theorem y_forRev {x : V} {ds : List PyData} (h : Rp H x (.tuple ds)) (Pv : Nat → L2.St → Hp → Prop) (h0 : Pv 0 σ H) (hl : ∀ i σ' H', Pv i σ' H' → Fz K H H')
    (hs : ∀ i d v σ' H', i < ds.length → ds[ds.length - 1 - i]? = some d → Rp H' v d → Pv i σ' H' → g v σ' H' fun σ2 H2 => tb { D with nx := Pv (i + 1), ct := Pv (i + 1), bk := D.nx } σ2 H2) (hd : ∀ σ' H', Pv ds.length σ' H' → D.nx σ' H') : rForRev K g tb D σ x H := by
  obtain ⟨a, xs, rfl, hp, hx⟩ := h.t_
  refine ⟨a, xs, rfl, .inr ⟨hp.sq, RT.for_ItvT Pv h0 (fun i σ' H' p => (hp.fz (hl i σ' H' p)).sq) (fun i x σ' H' hi e p => ?_) fun σ' H' p => hd σ' H' (hx.len ▸ p)⟩⟩
  obtain ⟨d, h1, h2⟩ := hx.get' e
  rw [hx.len] at h1 hi
  exact hs i d x σ' H' hi h1 (h2.fz (hl i σ' H' p)) p
end
def sp_Runner_stacked (K : PySem.W.Frag) : Sp := fun vs H Q _ => ∃ (x y v : V) (ds ps : List PyData), vs = [x, y, v] ∧ Rp H y (.tuple ds) ∧ Rp H v (pendD ps) ∧ ∀ v' H', Same H H' → Rp H' v' (pendD (ds ++ ps)) → Q v' H'
def sp_Runner_drawn (K : PySem.W.Frag) : Sp := fun vs H Q _ => ∃ (x : V) (m : Mo) (ks : List Nat) (b : Bool) (ps : List PyData) (a n : Nat), vs = [x, .ref m.p, .str "a", .int (n : Int)] ∧ MomAt K H m ks b ps ∧ NmAt H m.nm a ∧ ks.length < 64 ∧ (∀ k ∈ ks, k < 1000) ∧ ks.Nodup ∧ n < 1000 ∧
  ∀ l (ms : List Mo) H', Same H H' → H l = none → H' l = some (.lst (ms.map fun m => V.ref m.p)) → ms.length = n → ms.Pairwise (fun m m' => ∀ x ∈ m.all, x ∉ m'.all) → (∀ m ∈ ms, MoFree H m ∧ m.nm ∉ m.own) → (∀ i m', ms[i]? = some m' → MomAt K H' m' (srt ks) b ps ∧ NmAt H' m'.nm i) → Q (.ref l) H'
section
variable {P : Program} {w : World} {K : PySem.W.Frag} {mg : Str → Option Value} {base : Heap}
theorem sc_Runner_stacked : FnScope ["self", "block", "pending", "statement"] ["self", "block", "pending"] (defScope s_Runner_stacked) := ⟨rfl, rfl, rfl, by decide +kernel, rfl, by decide +kernel, by decide +kernel⟩
theorem sc_Runner_drawn : FnScope ["self", "moment", "local", "count", "found", "result", "other"] ["self", "moment", "local", "count"] (defScope s_Runner_drawn) := ⟨rfl, rfl, rfl, by decide +kernel, rfl, by decide +kernel, by decide +kernel⟩
theorem ok_Runner_stacked (T : Tx K mg) {fd : FuncData} (F : FnX K d_Runner_stacked fd) : FnOk P w K mg base CX0 1 (He.fAd K d_Runner_stacked.at_) fd ["self", "block", "pending"] (sp_Runner_stacked K) := by
  refine F.ok sc_Runner_stacked (fun vs H Q E h => ?_) (fun cdv A outer s0 H vs Q E hr h => ?_)
  · obtain ⟨x, y, v, ds, ps, rfl, _⟩ := h
    rfl
  obtain ⟨x, y, v, ds, ps, rfl, hy, hv, q⟩ := h
  refine ⟨_, PSs.nox (pss_cons (ps_for PassesOwn.never rfl (RT.pi_revA rfl T.f_reversed (pv 1)) (pg_name (i := 3) sc_Runner_stacked.nd rfl (Or.inl rfl)) (pss_one (ps_set (i := 2) sc_Runner_stacked.nd rfl (Or.inl rfl) (pe_tupF (pa_cons (pv 3) (pa_cons (pv 2) pa_nil))))))
      (pss_one (ps_ret (pv 2)))), ?_⟩
  walk_at "vc"
  refine x_forRev ?_
  walk_at "vc"
  refine y_forRev hy (fun i σ' H' => Same H H' ∧ ∃ u z, σ' = [some x, some y, some u, z] ∧ Rp H' u (pendD (ds.drop (ds.length - i) ++ ps))) ⟨fun _ _ e => e, v, none, rfl, ?_⟩ (fun i σ' H' p => Fz.same p.1) ?_ ?_
  · rw [Nat.sub_zero, List.drop_length]
    exact hv
  · rintro i d u σ' H1 hi hd hu ⟨s1, u1, z, rfl, hp⟩
    walk_at "vc"
    rename_i p2 H2 f2 s2 t2
    refine ⟨s1.trans s2, _, _, rfl, ?_⟩
    have e0 : ds.length - i = (ds.length - 1 - i) + 1 := by omega
    have e1 : ds.drop (ds.length - (i + 1)) = d :: ds.drop (ds.length - i) := by
      have e2 : ds.length - (i + 1) = ds.length - 1 - i := by omega
      rw [e2, e0]
      obtain ⟨h1, h2⟩ := List.getElem?_eq_some_iff.mp hd
      rw [← h2]
      exact List.drop_eq_getElem_cons h1
    rw [e1]
    exact Rp.tup t2 (.cons (hu.same s2) (.cons (hp.same s2) .nil))
  · rintro σ' H1 ⟨s1, u1, z, rfl, hp⟩
    walk_at "vc"
    rw [Nat.sub_self, List.drop_zero] at hp
    exact q _ _ s1 hp
theorem c_Runner_stacked (T : Tx K mg) : Cal P w K mg base 1 d_Runner_stacked ["self", "block", "pending"] [] (sp_Runner_stacked K) :=
  Cal.of T.d_Runner_stacked rfl rfl (fun _ _ _ _ _ _ us hl => match us, hl with | [_, _, _], _ => rfl) fun fd F => ok_Runner_stacked T F
theorem ok_Runner_drawn (T : Tx K mg) {fd : FuncData} (F : FnX K d_Runner_drawn fd) : FnOk P w K mg base CX0 4 (He.fAd K d_Runner_drawn.at_) fd ["self", "moment", "local", "count"] (sp_Runner_drawn K) := by
  refine F.ok sc_Runner_drawn (fun vs H Q E h => ?_) (fun cdv A outer s0 H vs Q E hr h => ?_)
  · obtain ⟨x, m, ks, b, ps, a, n, rfl, _⟩ := h
    rfl
  obtain ⟨x, m, ks, b, ps, a, n, rfl, hM, hN, h64, hb, nd, hn, q⟩ := h
  have hu := hu1 hr
  refine ⟨_, PSs.nox (pss_cons (ps_set (i := 4) sc_Runner_drawn.nd rfl (Or.inl rfl) (pe_lst pa_nil))
      (pss_cons (ps_for PassesOwn.never rfl (pi_range1 rfl T.f_range (pa_cons (pv 3) pa_nil)) (pg_name (i := 5) sc_Runner_drawn.nd rfl (Or.inl rfl)) (pss_cons (ps_set (i := 6) sc_Runner_drawn.nd rfl (Or.inl rfl) (pe_metc0 (c_Moment_copy T) (pv 1) T.cl_Moment T.m_Moment_copy (hr.mono (by omega))))
      (pss_cons (ps_dput hu (pe_fldc T.cl_Moment T.n_Moment_names (pv 6)) (pv 2) (pv 5) rfl)
      (pss_one (ps_expr (pe_bmF PySem.F.plainAttrs_list PySem.F.slot_list_append PySem.F.type_list_append mt_append (pv 4) (pa_cons (pv 6) pa_nil)))))))
      (pss_one (ps_ret (pv 4))))), ?_⟩
  walk_at "vc"
  rename_i l H0 f0 s0' t0
  refine y_forI (n := (n : Int)) (by omega) (by omega) (fun i σ' H' => ∃ (ms : List Mo) (z1 z2 : Option V), σ' = [some x, some (.ref m.p), some (.str "a"), some (.int (n : Int)), some (.ref l), z1, z2] ∧ Same H H' ∧ H' l = some (.lst (ms.map fun m => V.ref m.p)) ∧ ms.length = i ∧
    ms.Pairwise (fun m m' => ∀ x ∈ m.all, x ∉ m'.all) ∧ (∀ m' ∈ ms, l ∉ m'.all ∧ MoFree H m' ∧ m'.nm ∉ m'.own) ∧ ∀ j m', ms[j]? = some m' → MomAt K H' m' (srt ks) b ps ∧ NmAt H' m'.nm j) ?h0 ?hs ?hd (fun Q q => ?ha)
  case h0 => exact ⟨[], none, none, rfl, s0', t0, rfl, .nil, ⟨fun _ h => (by cases h), fun j m' h => by simp at h⟩⟩
  case ha =>
    walk_at "vc"
    exact q
  case hd =>
    rintro σ' H1 ⟨ms, z1, z2, rfl, s1, h1, h2, h3, h4, h5⟩
    walk_at "vc"
    exact q l ms H1 s1 f0 h1 (by omega) h3 (fun m' hm => (h4 m' hm).2) h5
  rintro i σ' H1 hi ⟨ms, z1, z2, rfl, s1, h1, h2, h3, h4, h5⟩
  obtain ⟨dxm, pdm, gm⟩ := id hM
  have gm0 := gm.1
  walk_at "vc"
  refine ⟨m, ks, b, a, ps, rfl, hM.same s1, hN.same s1, h64, hb, nd, fun m' H2 s2 fr nn hM' hN' => ?_⟩
  have hM' : MomAt K H2 m' (srt ks) b ps := hM'
  obtain ⟨dx', pd', gm'⟩ := id hM'
  have gm0' := gm'.1
  walk_at "vc"
  refine y_dputS (s := "a") hN' (Nat.le_of_ble_eq_true rfl) fun H3 b3 e3 => ?_
  have hN3 : NmAt H3 m'.nm i := e3
  have lm : l ∉ m'.all := fr.not h1
  have nml : m'.nm ≠ l := fun z => lm (z ▸ m'.nm_all)
  have e3' : H3 l = some (.lst (ms.map fun m => V.ref m.p)) := b3 _ _ nml.symm (s2 _ _ h1)
  walk_at "vc"
  refine y_append e3' (by rw [List.length_map]; omega) fun H4 b4 e4 => ?_
  have sH : Same H H4 := Same.but (Same.but (s1.trans s2) (s1.free (fr _ m'.nm_all)) b3) f0 b4
  refine ⟨ms ++ [m'], _, _, rfl, sH, ?_, ?_, ?_, ?_, ?_⟩
  · rw [List.map_append]
    exact e4
  · rw [List.length_append, h2]
    rfl
  · rw [List.pairwise_append]
    refine ⟨h3, List.pairwise_singleton _ _, fun m1 hm1 m2 hm2 => ?_⟩
    rw [List.mem_singleton] at hm2
    subst hm2
    obtain ⟨j, hj⟩ := List.mem_iff_getElem?.mp hm1
    exact fr.apart (h5 j m1 hj).1 (h5 j m1 hj).2
  · intro m1 hm1
    rcases List.mem_append.mp hm1 with hm1 | hm1
    · exact h4 m1 hm1
    · rw [List.mem_singleton] at hm1
      subst hm1
      exact ⟨lm, MoFree.of s1 fr, nn⟩
  · intro j m1 hj
    by_cases hlt : j < ms.length
    · rw [List.getElem?_append_left hlt] at hj
      obtain ⟨q1, q2⟩ := h5 j m1 hj
      have ap := fr.apart q1 q2
      have n1 : m'.nm ∉ m1.all := fun z => ap _ z m'.nm_all
      have l1 := (h4 m1 (List.mem_of_getElem? hj)).1
      refine ⟨((q1.same s2).but b3 hN' (fun _ _ z => by cases z) (Mo.own_all n1)).but b4 e3' (fun _ _ z => by cases z) (Mo.own_all l1), ?_⟩
      exact b4 _ _ (fun z => l1 (z ▸ m1.nm_all)) (b3 _ _ (fun z => n1 (z ▸ m1.nm_all)) (s2 _ _ q2))
    · rw [List.getElem?_append_right (by omega)] at hj
      have e0 : j - ms.length = 0 := by
        cases h : j - ms.length with
        | zero => rfl
        | succ k =>
          rw [h] at hj
          simp at hj
      rw [e0] at hj
      have hj : m' = m1 := by simpa using hj
      subst hj
      have ej : j = i := by omega
      subst ej
      exact ⟨(hM'.but b3 hN' (fun _ _ z => by cases z) nn).but b4 e3' (fun _ _ z => by cases z) (Mo.own_all lm), b4 _ _ nml hN3⟩
theorem c_Runner_drawn (T : Tx K mg) : Cal P w K mg base 4 d_Runner_drawn ["self", "moment", "local", "count"] [] (sp_Runner_drawn K) :=
  Cal.of T.d_Runner_drawn rfl rfl (fun _ _ _ _ _ _ us hl => match us, hl with | [_, _, _, _], _ => rfl) fun fd F => ok_Runner_drawn T F
end
end Tn
set_option Elab.async false
set_option linter.all false
set_option maxRecDepth 100000
set_option maxHeartbeats 4000000
namespace Tn
open PySem PySem.Spec L2
local macro_rules | `(tactic| walk_at "tz") => `(tactic| first
  | ((refine' Tz.same ?s); (case s => with_reducible assumption))
  | ((refine' Tz.but ?b ?h ?n); (case b => with_reducible assumption); (case h => walk_at "look"); (case n => (intro o v z; cases z))))
local macro_rules | `(tactic| walk_at "fz") => `(tactic| first
  | ((refine' Fz.same ?s); (case s => with_reducible assumption))
  | ((refine' Fz.but ?b ?h ?n); (case b => with_reducible assumption); (case h => walk_at "look"); (case n => first | exact nf_lst | exact nf_dK | exact nf_ext | assumption)))
local macro_rules | `(tactic| walk_at "look") => `(tactic| first
  | with_reducible assumption
  | ((with_reducible refine' Same.app ?s ?m); (case s => with_reducible assumption); (case m => walk_at "look"))
  | ((with_reducible refine' RR.fz ?z ?m); (case z => walk_at "fz"); (case m => walk_at "look"))
  | ((with_reducible refine' Rp.tz ?z ?m); (case z => walk_at "tz"); (case m => walk_at "look"))
  | ((with_reducible refine' TU.tz ?z ?m); (case z => walk_at "tz"); (case m => walk_at "look"))
  | ((with_reducible refine' RpL.tz ?z ?m); (case z => walk_at "tz"); (case m => walk_at "look"))
  | ((with_reducible refine' GM.fz ?z ?m); (case z => walk_at "fz"); (case m => walk_at "look"))
  | ((with_reducible refine' But.app' ?b ?n ?m); (case b => with_reducible assumption); (case n => first | assumption | (refine Ne.symm ?_; assumption)); (case m => walk_at "look"))
  | ((with_reducible refine' But.app ?b ?l ?d ?m); (case b => with_reducible assumption); (case m => walk_at "look"); (case l => walk_at "look"); (case d => (intro z; cases z))))
local macro_rules | `(tactic| walk_at "rp") => `(tactic| first
  | (with_reducible assumption)
  | walk_at "look"
  | exact Rp.bl _ | exact Rp.int _ | exact Rp.str _ | exact Rp.non
  | ((refine' Rp.tup ?h ?l); (case h => walk_at "look"); (case l => walk_at "rpl")))
local macro_rules | `(tactic| walk_at "rpl") => `(tactic| first
  | exact RpL.nil
  | ((refine' RpL.cons ?h ?l); (case h => walk_at "rp"); (case l => walk_at "rpl")))
local macro_rules | `(tactic| walk_at "vc") => `(tactic| repeat (first
  | with_reducible refine' x_seq ?_
  | with_reducible refine' x_ifS ?_
  | with_reducible refine' x_asg ?_
  | with_reducible refine' x_drop ?_
  | with_reducible refine' x_ret ?_
  | with_reducible refine' x_name ?_
  | with_reducible refine' x_c ?_
  | ((with_reducible refine' x_var ?h ?_); (case h => rfl))
  | with_reducible refine' x_op ?_
  | with_reducible refine' x_un ?_
  | with_reducible refine' x_tup ?_
  | with_reducible refine' x_lst ?_
  | ((with_reducible refine' x_gtup ?h ?l ?_); (case h => walk_at "look"); (case l => rfl))
  | ((with_reducible refine' x_gtup' ?h ?l ?_); (case h => walk_at "look"); (case l => rfl))
  | with_reducible refine' x_gcons ?_
  | with_reducible refine' x_gnil ?_
  | with_reducible refine' x_nil ?_
  | with_reducible refine' x_cons ?_
  | with_reducible refine' x_call ?_
  | with_reducible refine' x_meth ?_
  | ((with_reducible refine' x_methv ?h ?l ?_); (case h => walk_at "look"); (case l => first | rfl | decide +kernel))
  | with_reducible refine' x_make ?_
  | with_reducible refine' x_cb ?_
  | with_reducible refine' x_test ?_
  | with_reducible refine' x_B ?_
  | with_reducible refine' x_and ?_
  | with_reducible refine' x_or ?_
  | with_reducible refine' x_not ?_
  | with_reducible refine' x_if ?_
  | with_reducible refine' x_andV ?_
  | with_reducible refine' x_orV ?_
  | with_reducible refine' x_notV ?_
  | with_reducible refine' x_next ?_
  | with_reducible refine' x_gfldc ?_
  | with_reducible refine' x_bmF ?_
  | with_reducible refine' x_bmF0 ?_
  | ((with_reducible refine' y_tyL ?h ?_); (case h => walk_at "look"))
  | ((with_reducible refine' y_tyD ?h ?_); (case h => walk_at "look"))
  | ((with_reducible refine' y_lenL ?h ?_); (case h => walk_at "look"))
  | ((with_reducible refine' y_lenR ?h ?_); (case h => walk_at "look"))
  | with_reducible refine' x_forT ?_
  | with_reducible refine' x_forL ?_
  | with_reducible refine' x_lcT ?_
  | with_reducible refine' x_lcL ?_
  | ((with_reducible refine' y_tupleL ?h ?_); (case h => walk_at "look"); intro _ _ _ _ _)
  | ((with_reducible refine' y_tupleR ?h ?_); (case h => walk_at "look"))
  | ((with_reducible refine' y_tupleT ?h ?_); (case h => walk_at "look"))
  | with_reducible refine' x_cont ?_
  | with_reducible refine' x_dget ?_
  | with_reducible refine' x_din ?_
  | with_reducible refine' x_dput ?_
  | with_reducible refine' x_sfldc ?_
  | with_reducible refine' x_bl ?_
  | ((with_reducible refine' x_fldc ?h ?l ?_); (case h => walk_at "look"); (case l => first | rfl | decide +kernel))
  | ((with_reducible refine' x_setc ?h ?l ?_); (case h => walk_at "look"); (case l => exact Nat.le_of_ble_eq_true rfl); intro _ _ _)
  | ((with_reducible refine' y_num ?h ?_); (case h => walk_at "look"))
  | ((with_reducible refine' y_den ?h ?_); (case h => walk_at "look"))
  | with_reducible refine' y_I0 ?_
  | ((with_reducible refine' y_ixS ?h ?e ?a ?_); (case h => walk_at "look"); (case e => rfl); (case a => rfl))
  | ((with_reducible refine' y_ixI ?h ?e ?a ?_); (case h => walk_at "look"); (case e => rfl); (case a => rfl))
  | ((with_reducible refine' y_ixB ?h ?e ?a ?_); (case h => walk_at "look"); (case e => rfl); (case a => rfl))
  | ((with_reducible refine' y_ixR ?h ?e ?a ?_); (case h => walk_at "look"); (case e => rfl); (case a => rfl); intro _ _)
  | ((with_reducible refine' y_ixT ?h ?a ?_); (case h => walk_at "look"); (case a => rfl))
  | ((with_reducible refine' y_eq ?s ?_); (case s => rfl))
  | ((with_reducible refine' y_ne ?s ?_); (case s => rfl))
  | ((with_reducible refine' x_rtup ?l ?_); (case l => exact Nat.le_of_ble_eq_true rfl); intro _ _ _ _ _)
  | ((with_reducible refine' x_rlst ?l ?_); (case l => exact Nat.le_of_ble_eq_true rfl); intro _ _ _ _ _)
  | ((with_reducible refine' ite_t ?h ?_); (case h => first | with_reducible rfl | assumption | exact decide_eq_true (by omega) | decide +kernel | rfl))
  | ((with_reducible refine' ite_f ?h ?_); (case h => first | with_reducible rfl | assumption | exact decide_eq_false (by omega) | decide +kernel | rfl))))
/-! ### a moment changes -/
section
variable {K : PySem.W.Frag} {mg : Str → Option Value} {H H' H1 H2 : Hp} {m : Mo} {ks : List Nat} {b : Bool} {ps : List PyData} {a : Nat}
/-- all stays but the moment, its table, its names -/
def BM (m : Mo) (H H' : Hp) : Prop := ∀ c o, c ≠ m.p → c ≠ m.dt → c ≠ m.nm → H c = some o → H' c = some o
theorem BM.of (s : Same H H') : BM m H H' := fun c o _ _ _ e => s c o e
theorem BM.trans (x : BM m H H1) (y : BM m H1 H2) : BM m H H2 := fun c o n1 n2 n3 e => y c o n1 n2 n3 (x c o n1 n2 n3 e)
theorem BM.p (x : But m.p H H') : BM m H H' := fun c o n1 _ _ e => x c o n1 e
theorem BM.d (x : But m.dt H H') : BM m H H' := fun c o _ n2 _ e => x c o n2 e
theorem BM.n (x : But m.nm H H') : BM m H H' := fun c o _ _ n3 e => x c o n3 e
theorem BM.fz (T : Tx K mg) (hM : MomAt K H m ks b ps) (hN : NmAt H m.nm a) (x : BM m H H') : Fz K H H' := by
  obtain ⟨dx, pd, g0, g1, g2, g3, g4, g5⟩ := hM
  intro c o f e
  exact x c o (ne_of e g0 fun z => T.nf_Moment (z ▸ f)) (ne_of e g4 fun z => nf_dK (z ▸ f)) (ne_of e hN fun z => nf_dK (z ▸ f)) e
theorem BM.lst (hM : MomAt K H m ks b ps) (hN : NmAt H m.nm a) (x : BM m H H') {l : Addr} {xs : List V} (e : H l = some (.lst xs)) : H' l = some (.lst xs) := by
  obtain ⟨dx, pd, g0, g1, g2, g3, g4, g5⟩ := hM
  exact x l _ (ne_of e g0 fun z => by cases z) (ne_of e g4 fun z => by cases z) (ne_of e hN fun z => by cases z) e
/-- the moment's attributes -/
theorem MomAt.setp (T : Tx K mg) (h : MomAt K H m ks b ps) (bt : But m.p H H') {dx : Addr} {b' : Bool} {pd : V} {ps' : List PyData} (e : H' m.p = some (.ins (He.ga K "Moment") dx (momF m.l1 m.lt m.l3 b' m.nm pd))) (r : Rp H pd (pendD ps')) : MomAt K H' m ks b' ps' := by
  obtain ⟨dx', pd', g0, g1, g2, g3, g4, g5⟩ := h
  exact ⟨dx, pd, e, bt _ _ (ne_of g1 g0 fun z => by cases z) g1, bt _ _ (ne_of g2 g0 fun z => by cases z) g2, bt _ _ (ne_of g3 g0 fun z => by cases z) g3, bt _ _ (ne_of g4 g0 fun z => by cases z) g4, r.tz (Tz.but bt g0 fun o v z => by cases z)⟩
theorem MomAt.setd (h : MomAt K H m ks b ps) (bt : But m.dt H H') {ks' : List Nat} (e : H' m.dt = some (.dK (ks'.map entN))) : MomAt K H' m ks' b ps := by
  obtain ⟨dx', pd', g0, g1, g2, g3, g4, g5⟩ := h
  exact ⟨dx', pd', bt _ _ (ne_of g0 g4 fun z => by cases z) g0, bt _ _ (ne_of g1 g4 fun z => by cases z) g1, bt _ _ (ne_of g2 g4 fun z => by cases z) g2, bt _ _ (ne_of g3 g4 fun z => by cases z) g3, e, g5.tz (Tz.but bt g4 fun o v z => by cases z)⟩
theorem NmAt.butp (hM : MomAt K H m ks b ps) (hN : NmAt H m.nm a) (bt : But m.p H H') : NmAt H' m.nm a := by
  obtain ⟨dx, pd, g0, _⟩ := hM
  exact bt _ _ (ne_of hN g0 fun z => by cases z) hN
theorem RunAt.butp (T : Tx K mg) {x : V} {n s : Nat} (hx : RunAt K H x n s) (hM : MomAt K H m ks b ps) (bt : But m.p H H') : RunAt K H' x n s := by
  obtain ⟨dx, pd, g0, _⟩ := hM
  exact hx.fz (Fz.but bt g0 T.nf_Moment)
end
/-- what a plain statement does -/
inductive PL (n : Nat) : PyData → List Nat → Bool → Nat → List Nat → Bool → Nat → Prop
  | bad (ks : List Nat) (b : Bool) (a : Nat) : PL n sBad ks b a ks true a
  | let_ (s : Nat) (ks : List Nat) (b : Bool) (a : Nat) : s < 1000 → PL n (sLet n s) ks b a ks b ((a + s) % n)
  | put (ks : List Nat) (b : Bool) (a : Nat) : PL n sPut ks b a (addK ks a) b a
def sp_Runner_plain (K : PySem.W.Frag) : Sp := fun vs H Q _ => ∃ (x e : V) (d : PyData) (m : Mo) (ks : List Nat) (b : Bool) (ps : List PyData) (a n s : Nat) (ks' : List Nat) (b' : Bool) (a' : Nat), vs = [x, .ref m.p, e] ∧ RunAt K H x n s ∧ Rp H e d ∧ MomAt K H m ks b ps ∧ NmAt H m.nm a ∧ m.nm ∉ m.own ∧ a < n ∧ n < 1000 ∧ ks.length ≤ 900 ∧ PL n d ks b a ks' b' a' ∧
  ∀ H', BM m H H' → MomAt K H' m ks' b' ps → NmAt H' m.nm a' → Q .non H'
section
variable {P : Program} {w : World} {K : PySem.W.Frag} {mg : Str → Option Value} {base : Heap}
theorem c_Runner_value (T : Tx K mg) : Cal P w K mg base 3 d_Runner_value ["self", "expression", "moment"] [] (sp_Runner_value K 2) := by
  have c : ∀ {k : Nat} {sp : Sp}, (∀ fd, FnX K d_Runner_value fd → FnOk P w K mg base CX0 k (He.fAd K d_Runner_value.at_) fd ["self", "expression", "moment"] sp) → Cal P w K mg base k d_Runner_value ["self", "expression", "moment"] [] sp := fun h =>
    Cal.of T.d_Runner_value rfl rfl (fun _ _ _ _ _ _ us hl => match us, hl with | [_, _, _], _ => rfl) h
  exact c fun fd F => ok_Runner_valueS T (c fun fd F => ok_Runner_valueS T (c fun fd F => ok_Runner_value0 T F) F) F
theorem sc_Runner_plain : FnScope ["self", "moment", "statement", "kind", "at", "key"] ["self", "moment", "statement"] (defScope s_Runner_plain) := ⟨rfl, rfl, rfl, by decide +kernel, rfl, by decide +kernel, by decide +kernel⟩
theorem ok_Runner_plain (T : Tx K mg) {fd : FuncData} (F : FnX K d_Runner_plain fd) : FnOk P w K mg base CX0 4 (He.fAd K d_Runner_plain.at_) fd ["self", "moment", "statement"] (sp_Runner_plain K) := by
  refine F.ok sc_Runner_plain (fun vs H Q E h => ?_) (fun cdv A outer s0 H vs Q E hr h => ?_)
  · obtain ⟨x, e, d, m, ks, b, ps, a, n, s, ks', b', a', rfl, _⟩ := h
    rfl
  obtain ⟨x, e, d, m, ks, b, ps, a, n, s, ks', b', a', rfl, hx, he, hM, hN, nn, han, hn, hl, pl, q⟩ := h
  have hu := hu1 hr
  obtain ⟨dx, pd, g0, g1, g2, g3, g4, g5⟩ := id hM
  refine ⟨_, PSs.nox (pss_cons (ps_set (i := 3) sc_Runner_plain.nd rfl (Or.inl rfl) (pe_ix ix_tupF (pv 2) pe_int (fun _ _ => rfl)))
      (pss_one (ps_if (pt_cmpR op_eq (pv 3) pe_str (nomark _)) (pss_one (ps_fldc T.cl_Moment T.n_Moment_bad (pv 1) pe_bl)) (pss_one (ps_if (pt_cmpR op_eq (pv 3) pe_str (nomark _)) (pss_one (ps_dput hu (pe_fldc T.cl_Moment T.n_Moment_names (pv 1)) (pe_ix ix_tupF (pv 2) pe_int (fun _ _ => rfl)) (pe_metc (c_Runner_value T) (pv 0) T.cl_Runner T.m_Runner_value (hr.mono (by omega)) (pa_cons (pe_ix ix_tupF (pv 2) pe_int (fun _ _ => rfl)) (pa_cons (pv 1) pa_nil))) rfl)) (pss_one (ps_if (pt_cmpR op_eq (pv 3) pe_str (nomark _)) pss_never (pss_cons (ps_set (i := 4) sc_Runner_plain.nd rfl (Or.inl rfl) (pe_metc (c_Runner_table T) (pv 0) T.cl_Runner T.m_Runner_table (hr.mono (by omega)) (pa_cons (pe_ix ix_tupF (pv 2) pe_int (fun _ _ => rfl)) pa_nil)))
      (pss_cons (ps_set (i := 5) sc_Runner_plain.nd rfl (Or.inl rfl) (pe_op op_mod (pe_metc (c_Runner_value T) (pv 0) T.cl_Runner T.m_Runner_value (hr.mono (by omega)) (pa_cons (pe_ix ix_tupF (pv 2) pe_int (fun _ _ => rfl)) (pa_cons (pv 1) pa_nil))) (pe_ix ix_tupF (pe_ix ix_tupF (pe_fldc T.cl_Game T.n_Game_tables (pe_fldc T.cl_Runner T.n_Runner_game (pv 0))) (pv 4) (fun _ _ => rfl)) pe_int (fun _ _ => rfl))))
      (pss_one (ps_dput hu (pe_ix ix_listF (pe_fldc T.cl_Moment T.n_Moment_tables (pv 1)) (pv 4) (fun _ _ => rfl)) (pv 5) (pe_op op_mod (pe_metc (c_Runner_value T) (pv 0) T.cl_Runner T.m_Runner_value (hr.mono (by omega)) (pa_cons (pe_ix ix_tupF (pv 2) pe_int (fun _ _ => rfl)) (pa_cons (pv 1) pa_nil))) (pe_ix ix_tupF (pe_ix ix_tupF (pe_fldc T.cl_Game T.n_Game_tables (pe_fldc T.cl_Runner T.n_Runner_game (pv 0))) (pv 4) (fun _ _ => rfl)) pe_int (fun _ _ => rfl))) rfl))))))))))), ?_⟩
  cases pl with
  | bad =>
    walk_at "vc"
    rename_i H1 b1 e1
    exact q _ (BM.p b1) (hM.setp T b1 e1 g5) (hN.butp hM b1)
  | let_ s' _ _ _ hs' =>
    walk_at "vc"
    refine y_runM hx (fun _ => rfl) ?_
    walk_at "vc"
    rename_i v1 hv1
    refine ⟨_, _, _, _, m, ks, b, ps, a, n, s, rfl, hx, hv1, hM, hN, han, hn, .mdl 0 s' hs', fun H1 s1 => ?_⟩
    walk_at "vc"
    refine y_dputS (s := "a") (s1 _ _ hN) (Nat.le_of_ble_eq_true rfl) fun H3 b3 e3 => ?_
    refine q _ ((BM.of s1).trans (BM.n b3)) ((hM.same s1).but b3 (hN.same s1) (fun _ _ z => by cases z) nn) e3
  | put =>
    walk_at "vc"
    refine y_runM hx (fun _ => rfl) ?_
    walk_at "vc"
    refine ⟨_, n, s, rfl, hx, fun H1 s1 => ?_⟩
    walk_at "vc"
    refine y_runM (hx.same s1) (fun _ => rfl) ?_
    walk_at "vc"
    rename_i v1 hv1
    refine ⟨_, _, eA, _, m, ks, b, ps, a, n, s, rfl, hx.same s1, hv1, hM.same s1, hN.same s1, han, hn, .loc _, fun H2 s2 => ?_⟩
    have s12 : Same H H2 := s1.trans s2
    walk_at "vc"
    refine y_game (hx.same s12) fun g hg => ?_
    walk_at "vc"
    refine y_gtab hg fun u hu1 => ?_
    walk_at "vc"
    refine y_I (by omega : (0 : Int) < (n : Int)) ?_
    have e0 : (a : Int) % (n : Int) = (a : Int) := by
      rw [← Int.natCast_emod, Nat.mod_eq_of_lt han]
    rw [e0]
    walk_at "vc"
    refine y_runM (hx.same s12) (fun _ => rfl) ?_
    walk_at "vc"
    rename_i v4 hv4
    refine ⟨_, _, _, _, m, ks, b, ps, a, n, s, rfl, hx.same s12, hv4, hM.same s12, hN.same s12, han, hn, .num _ _, fun H3 s3 => ?_⟩
    have s13 : Same H H3 := s12.trans s3
    walk_at "vc"
    refine y_game (hx.same s13) fun g hg => ?_
    walk_at "vc"
    refine y_gtab hg fun u hu1 => ?_
    walk_at "vc"
    refine y_I (by decide : (0 : Int) < 2) ?_
    walk_at "vc"
    refine y_ixL (s13 _ _ g2) (i := 0) (v := .ref m.dt) rfl ?_
    walk_at "vc"
    refine y_dputI (s13 _ _ g4) (by rw [List.length_map]; omega) fun H4 b4 e4 => ?_
    have e4 : H4 m.dt = some (.dK ((addK ks a).map entN)) := by
      rw [e4]
      exact congrArg (fun z => some (HO.dK z)) (putK_entN ks a)
    have nd : m.nm ≠ m.dt := by
      simp only [Mo.own, List.mem_cons, List.not_mem_nil, or_false, not_or] at nn
      exact nn.2.1
    exact q _ ((BM.of s13).trans (BM.d b4)) ((hM.same s13).setd b4 e4) (b4 _ _ nd (hN.same s13))
theorem c_Runner_plain (T : Tx K mg) : Cal P w K mg base 4 d_Runner_plain ["self", "moment", "statement"] [] (sp_Runner_plain K) :=
  Cal.of T.d_Runner_plain rfl rfl (fun _ _ _ _ _ _ us hl => match us, hl with | [_, _, _], _ => rfl) fun fd F => ok_Runner_plain T F
end
/-! ### go -/
theorem addK_le {ks : List Nat} {a : Nat} (h : ks.length < 64) : (addK ks a).length ≤ 900 := by
  unfold addK
  split
  · omega
  · rw [List.length_append, List.length_singleton]
    omega
/-- the ways of one statement list, from behind the draw -/
inductive Gs (n s : Nat) (ks : List Nat) (b : Bool) (a : Nat) : Nat → List PyData → List Nat → Bool → Nat → Prop
  | g0 : Gs n s ks b a 5 [sIf, sPut, sAfter n s] ks b a
  | g1 : a ∈ ks → Gs n s ks b a 4 [sBad, sPut, sAfter n s] ks b a
  | g2 : Gs n s ks b a 3 [sPut, sAfter n s] ks (b || decide (a ∈ ks)) a
  | g3 : Gs n s ks b a 2 [sAfter n s] (addK ks a) (b || decide (a ∈ ks)) a
  | g4 : (b || decide (a ∈ ks)) = true → Gs n s ks b a 1 [sLet n s] (addK ks a) (b || decide (a ∈ ks)) a
  | g5 : Gs n s ks b a 0 [] (addK ks a) (b || decide (a ∈ ks)) (if (b || decide (a ∈ ks)) = true then (a + s) % n else a)
def sp_Runner_go (K : PySem.W.Frag) : Sp := fun vs H Q _ => ∃ (x : V) (m : Mo) (ks : List Nat) (b : Bool) (ps : List PyData) (a n s : Nat), vs = [x, .ref m.p] ∧ RunAt K H x n s ∧ MomAt K H m ks b ps ∧ NmAt H m.nm a ∧ m.nm ∉ m.own ∧ ks.length < 64 ∧ (∀ k ∈ ks, k < 1000) ∧ ks.Nodup ∧ a < n ∧ n < 1000 ∧ s < 1000 ∧
  ((∃ rest, ps = sDraw n :: rest ∧ ∀ l (ms : List Mo) H', BM m H H' → (∀ c, c = l ∨ (∃ m' ∈ ms, c ∈ m'.all) → H c = none) → H' l = some (.lst (ms.map fun m => V.ref m.p)) → ms.length = n → ms.Pairwise (fun m m' => ∀ x ∈ m.all, x ∉ m'.all) → (∀ m' ∈ ms, m'.nm ∉ m'.own) →
      (∀ i m', ms[i]? = some m' → MomAt K H' m' (srt ks) b rest ∧ NmAt H' m'.nm i) → Q (.ref l) H') ∨
   (ps = [sIf, sPut, sAfter n s] ∧ ∀ l H', BM m H H' → H l = none → H' l = some (.lst []) → MomAt K H' m (addK ks a) (b || decide (a ∈ ks)) [] → NmAt H' m.nm (if (b || decide (a ∈ ks)) = true then (a + s) % n else a) → Q (.ref l) H'))
section
variable {P : Program} {w : World} {K : PySem.W.Frag} {mg : Str → Option Value} {base : Heap}
theorem sc_Runner_go : FnScope ["self", "moment", "statement", "kind", "at", "key", "test"] ["self", "moment"] (defScope s_Runner_go) := ⟨rfl, rfl, rfl, by decide +kernel, rfl, by decide +kernel, by decide +kernel⟩
theorem ok_Runner_go (T : Tx K mg) {fd : FuncData} (F : FnX K d_Runner_go fd) : FnOk P w K mg base CX0 5 (He.fAd K d_Runner_go.at_) fd ["self", "moment"] (sp_Runner_go K) := by
  refine F.ok sc_Runner_go (fun vs H Q E h => ?_) (fun cdv A outer s0 H vs Q E hr h => ?_)
  · obtain ⟨x, m, ks, b, ps, a, n, s, rfl, _⟩ := h
    rfl
  obtain ⟨x, m, ks, b, ps, a, n, s, rfl, hx, hM, hN, nn, h64, hb, nd, han, hn, hs, h⟩ := h
  refine ⟨_, PSs.nox (pss_cons (ps_while PassesOwn.never (pt_cmpR op_notN (pe_fldc T.cl_Moment T.n_Moment_pending (pv 1)) pe_non (nomark _)) (pss_cons (ps_asg (pe_fldc T.cl_Moment T.n_Moment_pending (pv 1)) (pg_tup rfl (pgs_cons (pg_name (i := 2) sc_Runner_go.nd rfl (Or.inl rfl)) (pgs_cons (pg_fldc T.cl_Moment T.n_Moment_pending (pv 1)) pgs_nil))))
      (pss_cons (ps_set (i := 3) sc_Runner_go.nd rfl (Or.inl rfl) (pe_ix ix_tupF (pv 2) pe_int (fun _ _ => rfl)))
      (pss_cons (ps_if (pt_cmpR op_eq (pv 3) pe_str (nomark _)) (pss_one (ps_ret (pe_metc (c_Runner_drawn T) (pv 0) T.cl_Runner T.m_Runner_drawn (hr.mono (by omega)) (pa_cons (pv 1) (pa_cons (pe_ix ix_tupF (pv 2) pe_int (fun _ _ => rfl)) (pa_cons (pe_ix ix_tupF (pv 2) pe_int (fun _ _ => rfl)) pa_nil)))))) pss_nil)
      (pss_one (ps_if (pt_cmpR op_eq (pv 3) pe_str (nomark _)) pss_never (pss_one (ps_if (pt_cmpR op_eq (pv 3) pe_str (nomark _)) (pss_cons (ps_set (i := 6) sc_Runner_go.nd rfl (Or.inl rfl) (pe_metc (c_Runner_value T) (pv 0) T.cl_Runner T.m_Runner_value (hr.mono (by omega)) (pa_cons (pe_ix ix_tupF (pv 2) pe_int (fun _ _ => rfl)) (pa_cons (pv 1) pa_nil))))
      (pss_one (ps_fldc T.cl_Moment T.n_Moment_pending (pv 1) (pe_metc (c_Runner_stacked T) (pv 0) T.cl_Runner T.m_Runner_stacked (hr.mono (by omega)) (pa_cons (pe_ifExp (pt_cmpR op_ne (pv 6) pe_int (nomark _)) (pe_ix ix_tupF (pv 2) pe_int (fun _ _ => rfl)) (pe_ix ix_tupF (pv 2) pe_int (fun _ _ => rfl))) (pa_cons (pe_fldc T.cl_Moment T.n_Moment_pending (pv 1)) pa_nil)))))) (pss_one (ps_if (pt_cmpR op_eq (pv 3) pe_str (nomark _)) (pss_one (ps_if (pt_val (pe_fldc T.cl_Moment T.n_Moment_bad (pv 1))) (pss_one (ps_fldc T.cl_Moment T.n_Moment_pending (pv 1) (pe_metc (c_Runner_stacked T) (pv 0) T.cl_Runner T.m_Runner_stacked (hr.mono (by omega)) (pa_cons (pe_ix ix_tupF (pv 2) pe_int (fun _ _ => rfl)) (pa_cons (pe_fldc T.cl_Moment T.n_Moment_pending (pv 1)) pa_nil))))) pss_nil)) (pss_one (ps_expr (pe_metc (c_Runner_plain T) (pv 0) T.cl_Runner T.m_Runner_plain (hr.mono (by omega)) (pa_cons (pv 1) (pa_cons (pv 2) pa_nil)))))))))))))))
      (pss_one (ps_ret (pe_lst pa_nil)))), ?_⟩
  refine x_seq ?_
  rcases h with ⟨rest, rfl, q⟩ | ⟨rfl, q⟩
  · refine while_by (fun σ H' => σ = L2.start ["self", "moment", "statement", "kind", "at", "key", "test"] [x, .ref m.p] ∧ H' = H) (fun _ _ => 0) ⟨rfl, rfl⟩ ?_ ?_
    · rintro σ H' ⟨rfl, rfl⟩
      obtain ⟨dx, pd, g0, g1, g2, g3, g4, g5⟩ := id hM
      walk_at "vc"
      refine ⟨rfl, ?_⟩
      obtain ⟨ap, xp, rfl, t1, t2⟩ := g5.t_
      walk_at "vc"
      refine x_gtupR g5 rfl fun xs hxs => ?_
      cases hxs with
      | @cons v1 _ _ _ r1 hxs =>
      cases hxs with
      | @cons v2 _ _ _ r2 hxs =>
      cases hxs
      walk_at "vc"
      rename_i H1 b1 e1
      refine y_runM (hx.butp T hM b1) (fun _ => rfl) ?_
      walk_at "vc"
      have hM1 : MomAt K H1 m ks b rest := hM.setp T b1 e1 r2
      refine ⟨x, m, ks, b, rest, a, n, rfl, hM1, hN.butp hM b1, h64, hb, nd, hn, fun l ms H2 s2 f2 e2 len pw fr al => ?_⟩
      have fr0 : ∀ c, c = l ∨ (∃ m' ∈ ms, c ∈ m'.all) → H1 c = none := by
        rintro c (rfl | ⟨m', hm, hc⟩)
        · exact f2
        · exact (fr m' hm).1 c hc
      refine q l ms H2 ((BM.p b1).trans (BM.of s2)) (fun c hc => b1.free e1 (fr0 c hc)) e2 len pw (fun m' hm => (fr m' hm).2) al
    · rintro σ H Q Q' m ⟨u, h1, a', dx', fs', v', e1, e2, e3, e4, k, e5, h2⟩
      exact ⟨u, h1, a', dx', fs', v', e1, e2, e3, e4, k, e5, m _ _ h2⟩
  · let W : Nat → L2.St → Hp → Prop := fun c σ H1 => ∃ ps ks1 b1 a1, Gs n s ks b a c ps ks1 b1 a1 ∧ MomAt K H1 m ks1 b1 ps ∧ NmAt H1 m.nm a1 ∧ RunAt K H1 x n s ∧ BM m H H1 ∧ ∃ z2 z3 z4 z5 z6, σ = [some x, some (.ref m.p), z2, z3, z4, z5, z6]
    refine ⟨W, ⟨5, _, _, _, _, .g0, hM, hN, hx, BM.of fun _ _ e => e, _, _, _, _, _, rfl⟩, ?_⟩
    rintro c σ H1 ⟨ps, ks1, b1, a1, gs, hM1, hN1, hx1, bm, z2, z3, z4, z5, z6, rfl⟩
    obtain ⟨dx, pd, g0, g1, g2, g3, g4, g5⟩ := id hM1
    cases gs with
    | g5 =>
      have ed := g5.n_
      subst ed
      walk_at "vc"
      refine ⟨rfl, ?_⟩
      walk_at "vc"
      rename_i l H2 f2 s2 e2
      refine q l H2 (bm.trans (BM.of s2)) ?_ e2 (hM1.same s2) (hN1.same s2)
      cases e : H l with
      | none => rfl
      | some o =>
        obtain ⟨dx', pd', i0, i1, i2, i3, i4, i5⟩ := id hM
        exact absurd (bm l o (fun z => by rw [z, g0] at f2; cases f2) (fun z => by rw [z, g4] at f2; cases f2) (fun z => by rw [z, hN1] at f2; cases f2) e) (by rw [f2]; exact fun z => by cases z)
    | g0 =>
      obtain ⟨ap, xp, rfl, t1, t2⟩ := g5.t_
      walk_at "vc"
      refine ⟨rfl, ?_⟩
      walk_at "vc"
      refine ⟨fun σ' H' => ∃ c', c' < 5 ∧ W c' σ' H', fun _ _ h => h, ?_⟩
      walk_at "vc"
      refine x_gtupR g5 rfl fun xs hxs => ?_
      cases hxs with
      | @cons v1 _ _ _ r1 hxs =>
      cases hxs with
      | @cons v2 _ _ _ r2 hxs =>
      cases hxs
      walk_at "vc"
      rename_i H2 b2 e2
      have hM2 := hM1.setp T b2 e2 r2
      have hN2 := hN1.butp hM1 b2
      have hx2 := hx1.butp T hM1 b2
      have bm2 := bm.trans (BM.p b2)
      have r1' := r1.tz (Tz.but b2 g0 fun o v z => by cases z)
      have r2' := r2.tz (Tz.but b2 g0 fun o v z => by cases z)
      refine y_runM hx2 (fun _ => rfl) ?_
      by_cases hak : a ∈ ks
      · have ev := EV.has (n := n) (ks := ks) (a := a) 1
        rw [if_pos hak] at ev
        walk_at "vc"
        rename_i v3 hv3
        refine ⟨_, _, eHas, _, m, ks, b, [sPut, sAfter n s], a, n, s, rfl, hx2, hv3, hM2, hN2, han, hn, ev, fun H3 s3 => ?_⟩
        obtain ⟨dx3, pd3, k0, k1, k2, k3, k4, k5⟩ := id (hM2.same s3)
        walk_at "vc"
        refine y_runM (hx2.same s3) (fun _ => rfl) ?_
        walk_at "vc"
        rename_i v4 hv4
        refine ⟨_, _, _, _, [sPut, sAfter n s], rfl, hv4, k5, fun v5 H5 s5 r5 => ?_⟩
        have s35 : Same H2 H5 := s3.trans s5
        obtain ⟨dx5, pd5, j0, j1, j2, j3, j4, j5⟩ := id (hM2.same s35)
        walk_at "vc"
        rename_i H6 b6 e6
        have hM6 := (hM2.same s35).setp T b6 e6 r5
        exact ⟨4, by omega, _, _, _, _, .g1 hak, hM6, (hN2.same s35).butp (hM2.same s35) b6, (hx2.same s35).butp T (hM2.same s35) b6, (bm2.trans (BM.of s35)).trans (BM.p b6), _, _, _, _, _, rfl⟩
      · have ev := EV.has (n := n) (ks := ks) (a := a) 1
        rw [if_neg hak] at ev
        walk_at "vc"
        rename_i v3 hv3
        refine ⟨_, _, eHas, _, m, ks, b, [sPut, sAfter n s], a, n, s, rfl, hx2, hv3, hM2, hN2, han, hn, ev, fun H3 s3 => ?_⟩
        obtain ⟨dx3, pd3, k0, k1, k2, k3, k4, k5⟩ := id (hM2.same s3)
        walk_at "vc"
        refine y_runM (hx2.same s3) (fun _ => rfl) ?_
        walk_at "vc"
        rename_i v4 hv4
        refine ⟨_, _, _, _, [sPut, sAfter n s], rfl, hv4, k5, fun v5 H5 s5 r5 => ?_⟩
        have s35 : Same H2 H5 := s3.trans s5
        obtain ⟨dx5, pd5, j0, j1, j2, j3, j4, j5⟩ := id (hM2.same s35)
        walk_at "vc"
        rename_i H6 b6 e6
        have hM6 := (hM2.same s35).setp T b6 e6 r5
        have eb : b = (b || decide (a ∈ ks)) := by simp [hak]
        rw [eb] at hM6
        exact ⟨3, by omega, _, _, _, _, .g2, hM6, (hN2.same s35).butp (hM2.same s35) b6, (hx2.same s35).butp T (hM2.same s35) b6, (bm2.trans (BM.of s35)).trans (BM.p b6), _, _, _, _, _, rfl⟩
    | g1 hak =>
      obtain ⟨ap, xp, rfl, t1, t2⟩ := g5.t_
      walk_at "vc"
      refine ⟨rfl, ?_⟩
      walk_at "vc"
      refine ⟨fun σ' H' => ∃ c', c' < 4 ∧ W c' σ' H', fun _ _ h => h, ?_⟩
      walk_at "vc"
      refine x_gtupR g5 rfl fun xs hxs => ?_
      cases hxs with
      | @cons v1 _ _ _ r1 hxs =>
      cases hxs with
      | @cons v2 _ _ _ r2 hxs =>
      cases hxs
      walk_at "vc"
      rename_i H2 b2 e2
      have hM2 := hM1.setp T b2 e2 r2
      have hN2 := hN1.butp hM1 b2
      have hx2 := hx1.butp T hM1 b2
      have bm2 := bm.trans (BM.p b2)
      have r1' := r1.tz (Tz.but b2 g0 fun o v z => by cases z)
      have r2' := r2.tz (Tz.but b2 g0 fun o v z => by cases z)
      refine y_runM hx2 (fun _ => rfl) ?_
      walk_at "vc"
      refine ⟨_, _, _, m, _, _, _, _, n, s, _, _, _, rfl, hx2, r1', hM2, hN2, nn, han, hn, by omega, .bad _ _ _, fun H3 bm3 hM3 hN3 => ?_⟩
      walk_at "vc"
      have eb : true = (b || decide (a ∈ ks)) := by simp [hak]
      have hM3 : MomAt K H3 m ks true [sPut, sAfter n s] := hM3
      rw [eb] at hM3
      exact ⟨3, by omega, _, _, _, _, .g2, hM3, hN3, hx2.fz (BM.fz T hM2 hN2 bm3), bm2.trans bm3, _, _, _, _, _, rfl⟩
    | g2 =>
      obtain ⟨ap, xp, rfl, t1, t2⟩ := g5.t_
      walk_at "vc"
      refine ⟨rfl, ?_⟩
      walk_at "vc"
      refine ⟨fun σ' H' => ∃ c', c' < 3 ∧ W c' σ' H', fun _ _ h => h, ?_⟩
      walk_at "vc"
      refine x_gtupR g5 rfl fun xs hxs => ?_
      cases hxs with
      | @cons v1 _ _ _ r1 hxs =>
      cases hxs with
      | @cons v2 _ _ _ r2 hxs =>
      cases hxs
      walk_at "vc"
      rename_i H2 b2 e2
      have hM2 := hM1.setp T b2 e2 r2
      have hN2 := hN1.butp hM1 b2
      have hx2 := hx1.butp T hM1 b2
      have bm2 := bm.trans (BM.p b2)
      have r1' := r1.tz (Tz.but b2 g0 fun o v z => by cases z)
      have r2' := r2.tz (Tz.but b2 g0 fun o v z => by cases z)
      refine y_runM hx2 (fun _ => rfl) ?_
      walk_at "vc"
      refine ⟨_, _, _, m, _, _, _, _, n, s, _, _, _, rfl, hx2, r1', hM2, hN2, nn, han, hn, by omega, .put _ _ _, fun H3 bm3 hM3 hN3 => ?_⟩
      walk_at "vc"
      exact ⟨2, by omega, _, _, _, _, .g3, hM3, hN3, hx2.fz (BM.fz T hM2 hN2 bm3), bm2.trans bm3, _, _, _, _, _, rfl⟩
    | g3 =>
      obtain ⟨ap, xp, rfl, t1, t2⟩ := g5.t_
      walk_at "vc"
      refine ⟨rfl, ?_⟩
      walk_at "vc"
      refine ⟨fun σ' H' => ∃ c', c' < 2 ∧ W c' σ' H', fun _ _ h => h, ?_⟩
      walk_at "vc"
      refine x_gtupR g5 rfl fun xs hxs => ?_
      cases hxs with
      | @cons v1 _ _ _ r1 hxs =>
      cases hxs with
      | @cons v2 _ _ _ r2 hxs =>
      cases hxs
      walk_at "vc"
      rename_i H2 b2 e2
      have hM2 := hM1.setp T b2 e2 r2
      have hN2 := hN1.butp hM1 b2
      have hx2 := hx1.butp T hM1 b2
      have bm2 := bm.trans (BM.p b2)
      have r1' := r1.tz (Tz.but b2 g0 fun o v z => by cases z)
      have r2' := r2.tz (Tz.but b2 g0 fun o v z => by cases z)
      by_cases hbk : (b || decide (a ∈ ks)) = true
      · rw [hbk] at e2 hM2
        walk_at "vc"
        refine y_runM hx2 (fun _ => rfl) ?_
        walk_at "vc"
        rename_i v4 hv4
        refine ⟨_, _, _, _, [], rfl, hv4, r2', fun v5 H5 s5 r5 => ?_⟩
        walk_at "vc"
        rename_i H6 b6 e6
        have hM6 := (hM2.same s5).setp T b6 e6 r5
        rw [← hbk] at hM6
        exact ⟨1, by omega, _, _, _, _, .g4 hbk, hM6, (hN2.same s5).butp (hM2.same s5) b6, (hx2.same s5).butp T (hM2.same s5) b6, (bm2.trans (BM.of s5)).trans (BM.p b6), _, _, _, _, _, rfl⟩
      · have hbk0 : (b || decide (a ∈ ks)) = false := by simpa using hbk
        rw [hbk0] at e2
        walk_at "vc"
        have e0 : a = if (b || decide (a ∈ ks)) = true then (a + s) % n else a := by rw [if_neg hbk]
        have g := Gs.g5 (n := n) (s := s) (ks := ks) (b := b) (a := a)
        rw [← e0] at g
        exact ⟨0, by omega, _, _, _, _, g, hM2, hN2, hx2, bm2, _, _, _, _, _, rfl⟩
    | g4 hbk =>
      obtain ⟨ap, xp, rfl, t1, t2⟩ := g5.t_
      walk_at "vc"
      refine ⟨rfl, ?_⟩
      walk_at "vc"
      refine ⟨fun σ' H' => ∃ c', c' < 1 ∧ W c' σ' H', fun _ _ h => h, ?_⟩
      walk_at "vc"
      refine x_gtupR g5 rfl fun xs hxs => ?_
      cases hxs with
      | @cons v1 _ _ _ r1 hxs =>
      cases hxs with
      | @cons v2 _ _ _ r2 hxs =>
      cases hxs
      walk_at "vc"
      rename_i H2 b2 e2
      have hM2 := hM1.setp T b2 e2 r2
      have hN2 := hN1.butp hM1 b2
      have hx2 := hx1.butp T hM1 b2
      have bm2 := bm.trans (BM.p b2)
      have r1' := r1.tz (Tz.but b2 g0 fun o v z => by cases z)
      have r2' := r2.tz (Tz.but b2 g0 fun o v z => by cases z)
      refine y_runM hx2 (fun _ => rfl) ?_
      walk_at "vc"
      refine ⟨_, _, _, m, _, _, _, _, n, s, _, _, _, rfl, hx2, r1', hM2, hN2, nn, han, hn, addK_le h64, .let_ s _ _ _ hs, fun H3 bm3 hM3 hN3 => ?_⟩
      walk_at "vc"
      have e0 : (a + s) % n = if (b || decide (a ∈ ks)) = true then (a + s) % n else a := by rw [if_pos hbk]
      have g := Gs.g5 (n := n) (s := s) (ks := ks) (b := b) (a := a)
      rw [← e0] at g
      exact ⟨0, by omega, _, _, _, _, g, hM3, hN3, hx2.fz (BM.fz T hM2 hN2 bm3), bm2.trans bm3, _, _, _, _, _, rfl⟩
theorem c_Runner_go (T : Tx K mg) : Cal P w K mg base 5 d_Runner_go ["self", "moment"] [] (sp_Runner_go K) :=
  Cal.of T.d_Runner_go rfl rfl (fun _ _ _ _ _ _ us hl => match us, hl with | [_, _], _ => rfl) fun fd F => ok_Runner_go T F
end
end Tn
set_option Elab.async false
set_option linter.all false
set_option maxRecDepth 100000
set_option maxHeartbeats 4000000
namespace Tn
open PySem PySem.Spec L2 PyProof.Rows
/-! ### dicts whose keys are trees of tuples -/
mutual
def nk : PyData → NestedKey
  | .none => .none
  | .bool b => .num (if b = true then 1 else 0)
  | .int i => .num i
  | .str x => .text x
  | .tuple ds => .tup (nkL ds)
  | _ => .none
def nkL : List PyData → List NestedKey
  | [] => []
  | d :: r => nk d :: nkL r
end
section
variable {P : Program} {w : World} {H H' : Hp} {h : Heap}
mutual
theorem Rp.nested (ok : HOk P w H h) : ∀ {v : V} {d : PyData} {u : Value}, Rp H v d → RelV v u → NestedIs h (nk d) u
  | _, _, _, .non, r => by cases r; exact .none
  | _, _, _, .bl b, r => by cases r; exact .bool rfl
  | _, _, _, .int i, r => by obtain ⟨t, rfl⟩ := r; exact .int _ _
  | _, _, _, .str x, r => by obtain ⟨t, rfl⟩ := r; exact .text _ _
  | _, _, _, .tup ht hl, r => by
    cases r
    obtain ⟨o, hd, e⟩ := ht
    obtain ⟨e1, z, its, rv, o', e2, e3, n, e4⟩ := ok _ _ e
    rw [e1] at e2
    cases e2
    exact .tup e1 e3 e4 (by simpa using RpL.nested ok hl rv)
theorem RpL.nested (ok : HOk P w H h) : ∀ {vs : List V} {ds : List PyData} {us : List Value}, RpL H vs ds → Vals vs us → NestedAll h (nkL ds) us
  | _, _, _, .nil, r => by cases r; exact .nil
  | _, _, _, .cons h1 h2, r => by
    cases r with
    | cons r1 r2 => exact .cons (Rp.nested ok h1 r1) (RpL.nested ok h2 r2)
end
end
abbrev NE := NestedKey × Addr × V
def ndPair (p : NE) (q : NestedKey × Addr × Value) : Prop := p.1 = q.1 ∧ p.2.1 = q.2.1 ∧ RelV p.2.2 q.2.2
def ndX (P : Program) (w : World) (d : Addr) (xs : List (NestedKey × Addr × Value)) (h : Heap) : Prop := ∃ o es ep, h.get? d = some o ∧ o.ExactDict ∧ o.data = .dict es ep ∧ es.toList = xs.map (entryOfKey (nestedKind P w)) ∧ (xs.map (·.1)).Nodup
def ndφ (P : Program) (w : World) (d : Addr) (ents : List NE) (h : Heap) : Prop := (d == sysModules) = false ∧ ents.length ≤ sizeLine ∧ ∃ xs, Paired ndPair ents xs ∧ ndX P w d xs h
/-- d is a dict with these entries: keys, the keys' tuples, values -/
def NDo (P : Program) (w : World) (d : Addr) (ents : List NE) : HO := .ext (ndφ P w d ents)
def NKey (H : Hp) (k : NestedKey) (b : Addr) : Prop := ∃ ds, Rp H (.ref b) (.tuple ds) ∧ nk (.tuple ds) = k ∧ k.depth ≤ 8
def NDok (H : Hp) (ents : List NE) : Prop := ∀ e ∈ ents, NKey H e.1 e.2.1
def ndGet (ents : List NE) (k : NestedKey) : Option V := (ents.find? fun e => decide (e.1 = k)).map (·.2.2)
def ndPut (ents : List NE) (k : NestedKey) (b : Addr) (v : V) : List NE := if (ndGet ents k).isSome = true then ents.map (fun e => if e.1 = k then (e.1, e.2.1, v) else e) else ents ++ [(k, b, v)]
theorem NKey.tz {H H' : Hp} {k : NestedKey} {b : Addr} (z : Tz H H') (h : NKey H k b) : NKey H' k b := let ⟨ds, a, c⟩ := h; ⟨ds, a.tz z, c⟩
theorem NDok.tz {H H' : Hp} {ents : List NE} (z : Tz H H') (h : NDok H ents) : NDok H' ents := fun e he => (h e he).tz z
section
variable {P : Program} {w : World} {H H' : Hp} {h h' : Heap} {d b : Addr} {ents : List NE} {xs : List (NestedKey × Addr × Value)} {k : NestedKey} {v : V} {u : Value}
theorem ndφ.stay (x : ndφ P w d ents h) (e : ∀ o, h.get? d = some o → h'.get? d = some o) : ndφ P w d ents h' := by
  obtain ⟨hd, hz, xs, pr, o, es, ep, h1, h2⟩ := x
  exact ⟨hd, hz, xs, pr, o, es, ep, e _ h1, h2⟩
theorem ndφ.ok (x : ndφ P w d ents h) : ObjOk P w H h d (NDo P w d ents) := by
  obtain ⟨hd, hz, xs, pr, o, es, ep, h1, h2⟩ := id x
  exact ⟨x, ⟨o, h1⟩, fun a c y e => y.stay e⟩
theorem nkey_is (ok : HOk P w H h) (x : NKey H k b) : (nestedKind P w).is h k b := by
  obtain ⟨ds, h1, h2, h3⟩ := x
  exact ⟨h2 ▸ Rp.nested ok h1 rfl, h3⟩
theorem nd_of (ok : HOk P w H h) (e : H d = some (NDo P w d ents)) (n : NDok H ents) : (d == sysModules) = false ∧ ents.length ≤ sizeLine ∧ ∃ xs, Paired ndPair ents xs ∧ h.DictOfH (nestedKind P w) d xs := by
  obtain ⟨⟨hd, hz, xs, pr, o, es, ep, h1, h2, h3, h4, h5⟩, _⟩ := ok _ _ e
  refine ⟨hd, hz, xs, pr, o, es, ep, h1, h2, h3, h4, ?_, h5⟩
  have all : ∀ {l : List NE} {m : List (NestedKey × Addr × Value)}, Paired ndPair l m → (∀ e ∈ l, NKey H e.1 e.2.1) → ∀ x ∈ m, (nestedKind P w).is h x.1 x.2.1 := by
    intro l m q
    induction q with
    | nil => intro _ x hx; exact nomatch hx
    | @cons p q ps qs hq t ih =>
      intro hn x hx
      rcases List.mem_cons.mp hx with e | hx
      · subst e
        have := nkey_is ok (hn p (List.mem_cons_self ..))
        rw [hq.1, hq.2.1] at this
        exact this
      · exact ih (fun e he => hn e (List.mem_cons_of_mem _ he)) x hx
  exact all pr n
theorem ndGet_rel (pr : Paired ndPair ents xs) (k : NestedKey) : RelO (ndGet ents k) ((atKey xs k).map (·.2)) := by
  induction pr with
  | nil => exact True.intro
  | @cons p q ps qs hq t ih =>
    obtain ⟨h1, _, h2⟩ := hq
    unfold ndGet atKey at ih ⊢
    by_cases e : p.1 = k
    · have e' : q.1 = k := h1.symm.trans e
      simp only [List.find?_cons, e, e', decide_true, Option.map_some]
      exact h2
    · have e' : ¬ q.1 = k := fun z => e (h1.trans z)
      simpa [List.find?_cons, e, e'] using ih
theorem ndPut_rel (pr : Paired ndPair ents xs) (k : NestedKey) (rv : RelV v u) : Paired ndPair (ndPut ents k b v) (storedH xs k b u) := by
  unfold ndPut storedH
  have e := (ndGet_rel pr k).isSome_eq
  rw [Option.isSome_map] at e
  rw [e]
  by_cases q : (atKey xs k).isSome = true
  · rw [if_pos q, if_pos q]
    clear q e
    induction pr with
    | nil => exact .nil
    | @cons p q ps qs hq t ih =>
      rw [List.map_cons, List.map_cons]
      refine .cons ?_ ih
      obtain ⟨h1, h2, h3⟩ := hq
      unfold putAt
      by_cases e : p.1 = k
      · rw [if_pos e, if_pos (h1.symm.trans e)]; exact ⟨h1, h2, rv⟩
      · rw [if_neg e, if_neg (fun z => e (h1.trans z))]; exact ⟨h1, h2, h3⟩
  · rw [if_neg q, if_neg q]
    exact Paired.snoc pr ⟨rfl, rfl, rv⟩
theorem ndPut_len (ents : List NE) (k : NestedKey) (b : Addr) (v : V) : (ndPut ents k b v).length ≤ ents.length + 1 := by
  unfold ndPut
  split
  · rw [List.length_map]; omega
  · rw [List.length_append]; exact Nat.le_refl _
theorem ndPut_ok (n : NDok H ents) (x : NKey H k b) : NDok H (ndPut ents k b v) := by
  unfold ndPut
  split
  · intro e he
    obtain ⟨e', h1, rfl⟩ := List.mem_map.mp he
    split
    · exact n e' h1
    · exact n e' h1
  · intro e he
    rcases List.mem_append.mp he with he | he
    · exact n e he
    · rw [List.mem_singleton] at he
      subst he
      exact x
end
/-! the rules -/
def tDNewN (P : Program) (w : World) : TE := fun _ H Q => ∀ p H', H p = none → Same H H' → H' p = some (NDo P w p []) → Q (.ref p) H'
def tNGet2 (P : Program) (w : World) (td ty tx : TE) : TE := fun σ H Q => td σ H fun x H1 => ∃ a ents, x = .ref a ∧ H1 a = some (NDo P w a ents) ∧ ty σ H1 fun y H2 => tx σ H2 fun z H3 => ∃ ents' k b, H3 a = some (NDo P w a ents') ∧ NDok H3 ents' ∧ y = .ref b ∧ NKey H3 k b ∧ Q ((ndGet ents' k).getD z) H3
def sNPut (P : Program) (w : World) (td ty tv : TE) : TS := fun D σ H => tv σ H fun v H1 => td σ H1 fun x H2 => ty σ H2 fun y H3 => ∃ a ents k b, x = .ref a ∧ H3 a = some (NDo P w a ents) ∧ NDok H3 ents ∧ y = .ref b ∧ NKey H3 k b ∧ ents.length ≤ 100000 ∧ ∀ H4, But a H3 H4 → H4 a = some (NDo P w a (ndPut ents k b v)) → D.nx σ H4
/-- the items, the dict known while they are walked -/
def ItN (P : Program) (w : World) (d : Addr) (o : Obj) (ents : List NE) : It :=
  ⟨fun i H => H d = some (.frz o (NDo P w d ents)) ∧ i < ents.length, fun i H x H' => ∃ T k b v, ents[i]? = some (k, b, v) ∧ x = .ref T ∧ H T = none ∧ Same H H' ∧ TU H' T [.ref b, v], fun i H => H d = some (.frz o (NDo P w d ents)) ∧ ents.length ≤ i⟩
def iItemsN (P : Program) (w : World) (td : TE) : TI := fun σ H R => td σ H fun x H1 => ∃ d ents, x = .ref d ∧ H1 d = some (NDo P w d ents) ∧ ∀ o H2, But d H1 H2 → H2 d = some (.frz o (NDo P w d ents)) → R (ItN P w d o ents) H2
def iItemsKF (td : TE) : TI := fun σ H R => td σ H fun x H1 => ∃ d kvs, x = .ref d ∧ H1 d = some (.dK kvs) ∧ ∀ o H2, But d H1 H2 → H2 d = some (.frz o (.dK kvs)) → R (Iti d o kvs) H2
section
variable {X : Cx} {P : Program} {w : World} {o e f i value : Expr} {td ty tx tv : TE} {pos pos' apos cpos : Pos}
theorem pe_dnewN (hP : X.prog = P) (hw : X.w = w) : PE X (.Dict [] [] pos) (tDNewN P w) := ⟨fun pins s σ H Q I h => by
  subst hP hw
  have hf : H s.heap.objs.size = none := I.hok.fresh (Nat.le_refl _)
  have x : ndφ X.prog X.w s.heap.objs.size [] (s.heap.push { cls := .type "dict", data := .dict #[] }) := ⟨beq_eq_false_iff_ne.mpr (Ne.symm (Nat.ne_of_lt I.big)), Nat.zero_le _, [], .nil, _, #[], 0, Heap.get?_push_size _ rfl, ⟨rfl, rfl, rfl⟩, rfl, rfl, List.nodup_nil⟩
  exact wpAny_Dict_empty ⟨.ref s.heap.objs.size, _, I.laid (a := s.heap.objs.size) (t' := s.toks) (fun _ _ q => Heap.get?_push_of_some _ q) (Nat.le_refl _) x.ok, rfl, h _ _ hf (Same.new hf) upd_same⟩⟩
theorem pe_nget2 (hP : X.prog = P) (hw : X.w = w) (hu : X.A.units + 64 < cLine) (ho : PE X o td) (he : PE X e ty) (hf : PE X f tx) (m : M2 X o "get" apos e f cpos) : PE X (.Call (.Attribute o "get" apos) [e, f] [] cpos) (tNGet2 P w td ty tx) := by
  subst hP hw
  refine ⟨fun pins s σ H Q I h => ?_⟩
  refine wpAny_Call_method m.base m.few m.line PySem.F.plainAttrs_dict PySem.F.slot_dict_get PySem.F.type_dict_get (thn (ho.run pins s σ H _ I h) fun u s1 ⟨x, H1, I1, rx, a, ents, ex, d, q1⟩ => ?_)
  subst ex
  obtain rfl : u = Value.ref a := rx
  obtain ⟨⟨hd, hz, xs, pr, ob, es, ep, h1, h2, h3⟩, _⟩ := I1.hok _ _ d
  refine ⟨⟨ob, h1, h2.1⟩, fun b q => ?_, ?_⟩
  · cases q
    exact ⟨ob, h1, h2.2.1⟩
  rw [m.trees]
  refine Calls.callWith_builtin rfl (Calls.evalArgs_plain (Calls.spliced_cons (thn (he.run pins s1 σ H1 _ I1 q1) fun iv s2 ⟨y, H2, I2, ry, q2⟩ =>
    Calls.spliced_cons (thn (hf.run pins s2 σ H2 _ I2 q2) fun fv s3 ⟨z, H3, I3, rz, ents', k, b, e3, n3, ey, nk3, q3⟩ => Calls.spliced_nil ?_))))
  subst ey
  cases ry
  obtain ⟨hd', hz', xs', pr', dd⟩ := nd_of I3.hok e3 n3
  refine call_meetsIn PySem.F.slot_dict_get dd.typeIs PySem.F.entry_dict_get (PySem.F.args_dict_get_3 _ _ _) (meetsH_dict_get_default (nestedKind X.prog X.w) a b hd' fv) ⟨(show X.A.in1.units + 8 < cLine by simp only [Around.in1_units]; omega), k, xs', nkey_is I3.hok nk3, dd, ⟨_, H3, I3.tok _, (ndGet_rel pr' k).getD rz, q3⟩⟩
theorem ps_nput (hP : X.prog = P) (hw : X.w = w) (hu : X.A.units + 64 < cLine) (ho : PE X o td) (hi : PE X i ty) (hv : PE X value tv) (hs : swapsWith value (some (.Subscript o i pos')) pos.line X.env = pure false) :
    PS X (.Assign [.Subscript o i pos'] value pos) (sNPut P w td ty tv) := by
  subst hP hw
  refine ⟨fun pins s σ H D I h => ?_⟩
  refine wpAny_Assign_Subscript (thn (hv.run pins s σ H _ I h) fun r s1 ⟨v, H1, I1, rv, q1⟩ => thn (ho.run pins s1 σ H1 _ I1 q1) fun u s2 ⟨x, H2, I2, rx, q2⟩ => thn (hi.run pins s2 σ H2 _ I2 q2) fun iv s3 ⟨y, H3, I3, ry, a, ents, k, b, ex, e3, n3, ey, nk3, len, q3⟩ => ?_) hs
  subst ex ey
  obtain rfl : u = Value.ref a := rx
  cases ry
  obtain ⟨hd, hz, xs, pr, dd⟩ := nd_of I3.hok e3 n3
  have hzx : xs.length ≤ sizeLine := by rw [← Paired.length pr]; exact hz
  refine wpAny_setItem_heap (knd := nestedKind X.prog X.w) (hsz := hzx) (show X.A.in1.units + 8 < cLine by simp only [Around.in1_units]; omega) (nkey_is I3.hok nk3) dd fun h' dd' hs' => ?_
  obtain ⟨q, es, ep, hq, h2, h3, h4, _, h5⟩ := dd'
  have x : ndφ X.prog X.w a (ndPut ents k b v) h' := ⟨hd, by
    have := ndPut_len ents k b v
    rw [PySem.sizeLine_eq]
    omega, _, ndPut_rel pr k rv, q, es, ep, hq, h2, h3, h4, h5⟩
  exact ⟨σ, _, d_write I3 (by rw [e3]; exact True.intro) hs' ⟨q, hq⟩ x.ok, q3 _ But.upd upd_same⟩
/-- a thing that may change is known from now on -/
theorem inv_freeze {pins : List (Addr × Obj)} {σ : L2.St} {H : Hp} {s : Shared} {d : Addr} {u : HO} (I : Inv X pins σ H s) (e : H d = some u) (mu : Mut (some u)) (ob : Obj) (ho : s.heap.get? d = some ob) (ok : ∀ H', ObjOk X.prog X.w H' s.heap d u) : Inv X pins σ (upd H d (.frz ob u)) s :=
  d_write (h' := s.heap) (t' := s.toks) I (by rw [e]; exact mu) ⟨rfl, fun _ _ => rfl⟩ ⟨ob, ho⟩ ⟨ho, ok _⟩
end
section
variable {P : Program} {w : World} {K : PySem.W.Frag} {d : Addr} {o : Obj} {es : Array DictEntry} {ep : Nat}
theorem ndfrz_of {X : Cx} {pins : List (Addr × Obj)} {σ : L2.St} {H : Hp} {s : Shared} {ents : List NE} (I : Inv X pins σ H s) (e : H d = some (.frz o (NDo X.prog X.w d ents))) (hod : o.data = .dict es ep) :
    s.heap.DictRaw d es ep ∧ es.size = ents.length ∧ ∀ (i : Nat) (p : NE), ents[i]? = some p → ∃ en : DictEntry, es[i]? = some en ∧ en.key = .ref p.2.1 ∧ RelV p.2.2 en.val := by
  obtain ⟨h1, ⟨hd, hz, xs, pr, o', es', ep', h2, h3, h4, h5, h6⟩, _⟩ := I.hok _ _ e
  rw [h1] at h2
  cases h2
  rw [hod] at h4
  cases h4
  have hl := Paired.length pr
  have hes : es.size = xs.length := size_of_entries h5
  refine ⟨⟨o, h1, h3, hod⟩, by omega, fun i p hp => ?_⟩
  have hi : i < ents.length := (List.getElem?_eq_some_iff.mp hp).1
  have hx : xs[i]? = some xs[i] := List.getElem?_eq_getElem (by omega)
  refine ⟨entryOfKey (nestedKind X.prog X.w) xs[i], by rw [entry_at h5, hx]; rfl, ?_⟩
  obtain ⟨p', hp', q1, q2, q3⟩ := DX.pget pr hx
  rw [hp] at hp'
  cases hp'
  exact ⟨by rw [q2]; rfl, q3⟩
theorem turn_itemsN {ents : List NE} {elts : List Expr} {kk : Nat} {tpos : Pos} (it : Addr) (hod : o.data = .dict es ep) :
    Turn P w K (.Tuple elts kk tpos) (ItN P w d o ents) [it] it (fun i h => ∃ ok ov, IsItemIter h it d i ents.length ep ok ov) where
  mem := by simp
  obj := fun i h st b hb => by
    have e : b = it := by simpa using hb
    subst e
    obtain ⟨ok, ov, e⟩ := st
    exact ⟨_, e, fun v z => nomatch z⟩
  keep := fun i h h' st k => let ⟨ok, ov, e⟩ := st; ⟨ok, ov, k it (by simp) _ e⟩
  item := by
    intro X hP hw hK hc i pins s σ H E I hf st hg
    subst hP hw hK
    obtain ⟨hd, hi⟩ := hg
    obtain ⟨raw, hsz, ent⟩ := ndfrz_of I hd hod
    obtain ⟨⟨k, b, v⟩, hkv⟩ : ∃ p, ents[i]? = some p := ⟨ents[i], List.getElem?_eq_getElem hi⟩
    obtain ⟨en, hen, hkey, rv⟩ := ent i _ hkv
    obtain ⟨hlt', hen⟩ := Array.getElem?_eq_some_iff.mp hen
    obtain ⟨ok, ov, he⟩ := st
    rw [← hsz] at he
    have hlt : it < s.heap.objs.size := Heap.lt_size he
    refine wpAny_pyNext_items_item_raw he raw hlt' fun h' ho hT hz hk => ?_
    rw [hen] at ho hT
    refine ⟨_, rfl, wpAny_letOwnedTupleGo_items (s := { s with heap := h' }) ho fun h'' he' sb => ?_⟩
    have hT2 : h''.get? s.heap.objs.size = some { cls := .type "tuple", data := .seq #[en.key, en.val] } := (sb.2 _ (Nat.ne_of_gt hlt)).trans hT
    have new : ObjOk X.prog X.w (upd H s.heap.objs.size (.frz { cls := .type "tuple", data := .seq #[en.key, en.val] } (.tup [.ref b, v]))) h'' s.heap.objs.size (.frz { cls := .type "tuple", data := .seq #[en.key, en.val] } (.tup [.ref b, v])) :=
      ⟨hT2, by show 2 ≤ sizeLine; decide, [en.key, en.val], .cons hkey (.cons rv .nil), ⟨_, hT2, rfl, _, rfl⟩⟩
    have I1 : Inv X pins σ (upd H s.heap.objs.size _) { s with heap := h'' } :=
      I.turnedNew (t' := s.toks) (ch := [it]) (fun b ob hb e => (sb.2 b (by simpa using hb)).trans (hk b ob (by simpa using hb) e)) hf (Nat.le_refl _) new
    have hf0 : H s.heap.objs.size = none := I.hok.fresh (Nat.le_refl _)
    refine ⟨.ref s.heap.objs.size, _, I1, rfl, ⟨_, k, b, v, hkv, rfl, hf0, Same.new hf0, _, rfl, upd_same⟩, ⟨en.key, en.val, ?_⟩, fun b hb => ?_⟩
    · rw [← hsz]; exact he'
    · have e : b = it := by simpa using hb
      rw [e, upd_ne (Nat.ne_of_lt hlt)]
      exact (hf it (by simp)).1
  done := by
    intro X hP hw hK hc i pins s σ H E I hf st hg
    subst hP hw hK
    obtain ⟨hd, hi⟩ := hg
    obtain ⟨f0, f1, f2, f3, f4, f5⟩ := hf it (by simp)
    obtain ⟨raw, hsz, ent⟩ := ndfrz_of I hd hod
    obtain ⟨ok, ov, he⟩ := st
    rw [← hsz] at he
    exact wpAny_pyNext_items_end_raw (I.ok.hd hc) he raw (by omega) fun h' eb => ⟨rfl, I.turned (t' := s.toks) (fun b ob hb e => eb b ob hb e) f0 f1 f3 f4 f5⟩
  self := fun A i s Q E st h => let ⟨_, _, e⟩ := st; PySem.W.kcp_self e h
end
section
variable {X : Cx} {P : Program} {w : World} {e : Expr} {td : TE} {apos cpos tpos : Pos} {elts : List Expr} {kk : Nat}
theorem pi_itemsN (hP : X.prog = P) (hw : X.w = w) (he : PE X e td) (hbase : attributeBase e "items" X.env (eval e X.env) = eval e X.env := by rfl) (hline : (apos.endLine == cpos.line) = true := by rfl) :
    PI X (.Tuple elts kk tpos) (.Call (.Attribute e "items" apos) [] [] cpos) (iItemsN P w td) := by
  subst hP hw
  refine ⟨fun pins s σ H R I h => ?_⟩
  refine wpAny_Call_method (T := "dict") (id := "dict.items") hbase rfl hline PySem.F.plainAttrs_dict PySem.F.slot_dict_items PySem.F.type_dict_items (thn (he.run pins s σ H _ I h) fun u s1 ⟨x, H1, I1, rx, d, ents, ex, hd, q⟩ => ?_)
  subst ex
  obtain rfl : u = Value.ref d := rx
  obtain ⟨x0, _⟩ := I1.hok _ _ hd
  obtain ⟨hs, hz, xs, pr, ob, es, ep, h1, h2, h3, h4, h5⟩ := id x0
  refine ⟨⟨ob, h1, h2.1⟩, fun b q => ?_, ?_⟩
  · cases q
    exact ⟨ob, h1, h2.2.1⟩
  have I1' : Inv X pins σ (upd H1 d (.frz ob (NDo X.prog X.w d ents))) s1 := inv_freeze I1 hd True.intro ob h1 fun _ => x0.ok
  have hsz : es.size = ents.length := by rw [size_of_entries h4]; exact (Paired.length pr).symm
  have I2 : Inv X pins σ (upd H1 d (.frz ob (NDo X.prog X.w d ents))) { s1 with heap := s1.heap.push { cls := .type "dict_items", data := .fields #[.ref d] } } := I1'.kept (t' := s1.toks) fun b ob q => Heap.get?_push_of_some _ q
  have raw : (s1.heap.push { cls := .type "dict_items", data := .fields #[.ref d] }).DictRaw d es ep := ⟨ob, Heap.get?_push_of_some _ h1, h2, h3⟩
  have fin : wpAny (model X.prog X.w) X.A (pyIter (.ref s1.heap.objs.size)) (PIE X pins σ (.Tuple elts kk tpos) R) X.xe { s1 with heap := s1.heap.push { cls := .type "dict_items", data := .fields #[.ref d] } } := by
    refine wpAny_pyIter_items_raw (d := d) ⟨_, Heap.get?_push_size _ rfl, rfl, rfl⟩ raw (pi_one (tk := s1.toks) I2 _ (turn_itemsN _ h3) ⟨.none, .none, ?_⟩ (q ob _ But.upd upd_same))
    rw [← hsz]
    exact Heap.get?_push_size _ rfl
  show wpAny _ _ (callWith cpos (.builtin "dict.items") [.ref d] [] []) _ X.xe s1
  exact method_meetsIn PySem.F.slot_dict_items PySem.F.entry_dict_items rfl (PySem.evalArgs_none ⟨rfl, ⟨ob, h1, h2.1⟩, PySem.F.args_dict_items_1 _, _, meets_dict_items_raw d hs, ⟨⟨es, ep, ob, h1, h2, h3⟩, fin⟩⟩)
theorem pi_itemsKF (he : PE X e td) (hbase : attributeBase e "items" X.env (eval e X.env) = eval e X.env := by rfl) (hline : (apos.endLine == cpos.line) = true := by rfl) :
    PI X (.Tuple elts kk tpos) (.Call (.Attribute e "items" apos) [] [] cpos) (iItemsKF td) := by
  refine ⟨fun pins s σ H R I h => ?_⟩
  refine wpAny_Call_method (T := "dict") (id := "dict.items") hbase rfl hline PySem.F.plainAttrs_dict PySem.F.slot_dict_items PySem.F.type_dict_items (thn (he.run pins s σ H _ I h) fun u s1 ⟨x, H1, I1, rx, d, kvs, ex, hd, q⟩ => ?_)
  subst ex
  obtain rfl : u = Value.ref d := rx
  obtain ⟨_, _, _, _, ob, _, _, h1, _⟩ := dk_of I1.hok hd
  have I1' : Inv X pins σ (upd H1 d (.frz ob (.dK kvs))) s1 := inv_freeze I1 hd True.intro ob h1 fun _ => I1.hok _ _ hd
  have hd' : upd H1 d (.frz ob (.dK kvs)) d = some (.frz ob (.dK kvs)) := upd_same
  have q' := q ob _ But.upd hd'
  obtain ⟨hs, hgd, hx, es, ep, vs, hdt, hsz, kv, hm⟩ := I1'.frzK hd'
  have hl : kvs.length = vs.length := Paired.length kv
  refine ⟨hm.dictOf.typeIs, hm.dictOf.mapOf.noDict, ?_⟩
  have I2 : Inv X pins σ (upd H1 d (.frz ob (.dK kvs))) { s1 with heap := s1.heap.push { cls := .type "dict_items", data := .fields #[.ref d] } } := I1'.kept (t' := s1.toks) fun b ob q => Heap.get?_push_of_some _ q
  have fin : wpAny (model X.prog X.w) X.A (pyIter (.ref s1.heap.objs.size)) (PIE X pins σ (.Tuple elts kk tpos) R) X.xe { s1 with heap := s1.heap.push { cls := .type "dict_items", data := .fields #[.ref d] } } := by
    refine wpAny_pyIter_items (d := d) (knd := mixKind X.prog X.w) ⟨_, Heap.get?_push_size _ rfl, rfl, rfl⟩ (hm.push _) (pi_one (tk := s1.toks) I2 _ (turn_items _ hdt) ⟨.none, .none, ?_⟩ q')
    rw [hl]
    exact Heap.get?_push_size _ rfl
  show wpAny _ _ (callWith cpos (.builtin "dict.items") [.ref d] [] []) _ X.xe s1
  exact method_meetsIn PySem.F.slot_dict_items PySem.F.entry_dict_items rfl (PySem.evalArgs_none ⟨rfl, hm.dictOf.typeIs, PySem.F.args_dict_items_1 _, _, meets_dict_items (mixKind X.prog X.w) d hs, ⟨vs, hm.dictOf⟩, fin⟩)
end
end Tn
set_option Elab.async false
set_option linter.all false
set_option maxRecDepth 100000
set_option maxHeartbeats 4000000
namespace Tn
open PySem PySem.Spec L2 PyProof.Rows
/-! ### list(d.items()) of a dict with nested keys -/
section
variable {prog : Program} {w : World} {A : Around} {E : Value → Shared → Prop} {s : Shared} {r d : Addr} {es : Array DictEntry} {ep : Nat}
theorem initI {R : Result → Shared → Prop} (hh : A.handled = none) (hv : s.heap.IsItemsView r d) (hm : DT.Raw s.heap d es ep) (S : Addr) (hSr : S ≠ r) (hSd : d ≠ S) (hS : s.heap.get? S = some { cls := .type "list", data := .seq #[] })
    (hR : ∀ h' tk acc c as, (∀ b o, b ≠ S → s.heap.get? b = some o → h'.get? b = some o) → h'.get? S = some { cls := .type "list", dict := none, data := .seq acc c, slots := #[] } → as.length = es.size → DT.Made es S h' as →
      acc.toList = as.map Value.ref → R (.ok (.ret .none)) { s with heap := h', toks := tk }) (hn : es.size ≤ sizeLine) :
    wpAny (model prog w) A.in1 (Builtin.«list.__init__» ⟨[.ref S, .ref r], []⟩)
      (fun fin s' => match fin with | .done f => R (.ok f) s' | .again c' => c'.quiet = true ∧ codeAny (model prog w) A c' R s') (fun e s' => R (.error e) s') s := by
  show wpAny _ _ (do let old ← Builtin.List.listItems (.ref S); Builtin.List.listUpdate (.ref S) (fun _ => #[]); letGo old.toList.reverse; Builtin.List.listExtendWith (.ref S) (.ref r) .none) _ _ s
  refine wpAny_bind ?_
  unfold Builtin.List.listItems
  refine wpAny_bind (wpAny_seqItems hS rfl (wpAny_pure ?_))
  show wpAny _ _ (updateSeq S (fun _ => #[]) >>= fun _ => letGo (#[] : Array Value).toList.reverse >>= fun _ => Builtin.List.listExtendWith (.ref S) (.ref r) .none) _ _ s
  refine wpAny_bind (wpAny_updateSeq hS rfl ?_)
  have hS₂ := Heap.get?_update_self (Obj.mapSeq (fun _ => (#[] : Array Value))) hS rfl
  have oth : ∀ b o, b ≠ S → s.heap.get? b = some o → (s.heap.update S (Obj.mapSeq (fun _ => (#[] : Array Value)))).get? b = some o :=
    fun b o hb e => (Heap.get?_update_other _ _ (Ne.symm hb)).trans e
  refine wpAny_bind (wpAny_letGo ?_)
  refine DT.extI (es := es) (ep := ep) hh (let ⟨o, ho, x⟩ := hv; ⟨o, oth r o hSr.symm ho, x⟩) (hm.at' fun o e => oth d o hSd e) S hSr hSd .none _ hS₂ (fun h' tk acc c as hk hS' hl hG hacc => ?_) hn
  exact hR h' tk acc c as (fun b o hb e => hk b o hb (oth b o hb e)) hS' hl (hG.low (Nat.le_of_lt (Heap.lt_size hS₂))) hacc
theorem callI {Q : Value → Shared → Prop} (hh : A.handled = none) (hv : s.heap.IsItemsView r d) (hm : DT.Raw s.heap d es ep) (hn : es.size ≤ sizeLine)
    (hQ : ∀ h' tk acc c as, (∀ b o, s.heap.get? b = some o → h'.get? b = some o) → h'.get? s.heap.objs.size = some { cls := .type "list", dict := none, data := .seq acc c, slots := #[] } → as.length = es.size → DT.Made es s.heap.objs.size h' as →
      acc.toList = as.map Value.ref → Q (.ref s.heap.objs.size) { s with heap := h', toks := tk }) :
    wpAny (model prog w) A (call (.type "list") [.ref r]) Q E s := by
  refine callType_codes (Q₁ := fun obj s₁ => obj = .ref s.heap.objs.size ∧ s₁ = { s with heap := s.heap.push { cls := .type "list", data := .seq #[] } }) PySem.F.called_list (PySem.F.typeCall_list_1 _) PySem.F.entry_list_init
    (code_list_new _ ⟨rfl, rfl⟩) fun obj s₁ h₁ => ?_
  obtain ⟨rfl, rfl⟩ := h₁
  have hS : (s.heap.push { cls := .type "list", data := .seq #[] }).get? s.heap.objs.size = some { cls := .type "list", data := .seq #[] } := Heap.get?_push_size _ rfl
  have hr : r < s.heap.objs.size := let ⟨_, ho, _⟩ := hv; Heap.lt_size ho
  have hd : d < s.heap.objs.size := hm.lt
  refine ⟨⟨_, hS, rfl⟩, PySem.F.args_list_init_2 _ _, initI (es := es) (ep := ep) (A := A.in1) hh (let ⟨o, ho, x⟩ := hv; ⟨o, Heap.get?_push_of_some _ ho, x⟩) (hm.push _) _ (Nat.ne_of_gt hr) (Nat.ne_of_lt hd) hS (fun h' tk acc c as hk hS' hl hG hacc => ?_) hn⟩
  exact ⟨rfl, hQ h' tk acc c as (fun b o e => hk b o (Nat.ne_of_lt (Heap.lt_size e)) (Heap.get?_push_of_some _ e)) hS' hl hG hacc⟩
end
theorem vals_refsT : ∀ bs : List Addr, Vals (bs.map V.ref) (bs.map Value.ref)
  | [] => .nil
  | _ :: r => .cons rfl (vals_refsT r)
def tItemsN (P : Program) (w : World) (te : TE) : TE := fun σ H Q => te σ H fun x H1 => ∃ a ents, x = .ref a ∧ H1 a = some (NDo P w a ents) ∧ ∀ p H', H1 p = none → Same H1 H' → H' p = some (DX.itemsO p a) → Q (.ref p) H'
def rListItN (P : Program) (w : World) : List V → Hp → VK → Prop := fun vs H Q => ∃ (p a : Addr) (ents : List NE), vs = [.ref p] ∧ H p = some (DX.itemsO p a) ∧ H a = some (NDo P w a ents) ∧
  ∀ (H' : Hp) (l : Addr) (ts : List Addr), Same H H' → H l = none → H' l = some (.lst (ts.map V.ref)) → Paired (fun t (e : NE) => TU H' t [.ref e.2.1, e.2.2]) ts ents → Q (.ref l) H'
section
variable {X : Cx} {P : Program} {w : World} {o : Expr} {to : TE} {apos cpos : Pos}
theorem pe_itemsN (hP : X.prog = P) (hw : X.w = w) (ho : PE X o to) (hbase : attributeBase o "items" X.env (eval o X.env) = eval o X.env := by rfl) (hline : (apos.endLine == cpos.line) = true := by rfl) : PE X (.Call (.Attribute o "items" apos) [] [] cpos) (tItemsN P w to) := by
  subst hP hw
  refine ⟨fun pins s σ H Q I h => ?_⟩
  refine wpAny_Call_method0_late hbase hline (thn (ho.run pins s σ H _ I h) fun v s1 ⟨x, H1, I1, r1, a, ents, ex, e1, q1⟩ => ?_)
  subst ex
  cases r1
  obtain ⟨⟨hs, hz, xs, pr, ob, es, ep, h1, h2, h3, h4, h5⟩, _⟩ := I1.hok _ _ e1
  refine ⟨"dict", "dict.items", PySem.F.plainAttrs_dict, PySem.F.slot_dict_items, PySem.F.type_dict_items, ⟨ob, h1, h2.1⟩, fun b q => ?_, ?_⟩
  · cases q
    exact ⟨ob, h1, h2.2.1⟩
  refine Calls.callWith_builtin rfl (PySem.evalArgs_none (DT.callItems (es := es) (ep := ep) hs ⟨ob, h1, h2, h3⟩ ?_))
  have hf : H1 s1.heap.objs.size = none := I1.hok.fresh (Nat.le_refl _)
  exact ⟨.ref s1.heap.objs.size, upd H1 s1.heap.objs.size (DX.itemsO s1.heap.objs.size a), I1.laid (t' := s1.toks) (fun b u e => Heap.get?_push_of_some _ e) (Nat.le_refl _) (DX.itemsO_ok (Heap.get?_push_size _ rfl)), rfl, q1 _ _ hf (Same.new hf) upd_same⟩
theorem call_listItN (hP : X.prog = P) (hw : X.w = w) (hc : X.calm = true) : CallR X (.type "list") (rListItN P w) := by
  subst hP hw
  intro pins s σ H xs us Q I r h
  obtain ⟨p, a, ents, rfl, hp, ha, q⟩ := h
  obtain rfl := Vals.ref1 r
  have view : s.heap.IsItemsView p a := (show ObjOk X.prog X.w H s.heap p (DX.itemsO p a) from I.hok p _ hp).1
  obtain ⟨⟨hs, hz, xs, prr, ob, es, ep, h1, h2, h3, h4, h5⟩, _⟩ := I.hok _ _ ha
  have hl0 := Paired.length prr
  have hsz : es.size = ents.length := by rw [size_of_entries h4]; exact hl0.symm
  refine callI (es := es) (ep := ep) (I.ok.hd hc) view ⟨ob, h1, h2, h3⟩ (by omega) fun h' tk acc c as hk hS hl hG hacc => ?_
  have nd : as.Nodup := List.Pairwise.imp (fun h => Nat.ne_of_lt h) hG.rise
  have pr : ∀ (j : Nat) (b : Addr), as[j]? = some b → ∃ (e : NE) (u1 u2 : Value), ents[j]? = some e ∧ RelV (.ref e.2.1) u1 ∧ RelV e.2.2 u2 ∧ h'.get? b = some { cls := .type "tuple", data := .seq #[u1, u2] } := by
    intro j b hj
    obtain ⟨en, he, hg⟩ := hG.pairs j b hj
    have hjs : j < es.size := by
      have := (List.getElem?_eq_some_iff.mp hj).1
      omega
    have hx : xs[j]? = some xs[j] := List.getElem?_eq_getElem (by omega)
    rw [entry_at h4, hx] at he
    cases he
    obtain ⟨p', hp', q1, q2, q3⟩ := DX.pget prr hx
    exact ⟨p', _, _, hp', by rw [q2]; rfl, q3, hg⟩
  have hn0 : H s.heap.objs.size = none := I.hok.fresh (Nat.le_refl _)
  have hlt : s.heap.objs.size < h'.objs.size := Heap.lt_size hS
  have I1 : Inv X pins σ H { s with heap := h', toks := tk } := I.kept (t' := tk) hk
  have rv : Vals (as.map V.ref) acc.toList := by
    rw [hacc]
    exact vals_refsT as
  have I2 : Inv X pins σ (upd H s.heap.objs.size (.lst (as.map V.ref))) { s with heap := h', toks := tk } :=
    I1.take (h' := h') (t' := tk) (fun b ob _ e => e) (I.fpOk (Nat.le_refl _) hn0) ⟨by rw [List.length_map]; omega, acc.toList, c, rv, by simpa using hS⟩
  obtain ⟨H2, I3, g, qt⟩ := takeTU (P := fun b vs => ∃ (j : Nat) (e : NE), as[j]? = some b ∧ ents[j]? = some e ∧ vs = [.ref e.2.1, e.2.2]) I as _ I2 nd fun b hb' => by
    obtain ⟨j, hj⟩ := List.mem_iff_getElem?.mp hb'
    obtain ⟨e, u1, u2, he, r1, r2, hg⟩ := pr j b hj
    have hbl : s.heap.objs.size < b := hG.above b hb'
    refine ⟨Nat.le_of_lt hbl, ?_, [.ref e.2.1, e.2.2], _, ⟨j, e, hj, he, rfl⟩, rfl, fun H3 => ⟨hg, (by rw [PySem.sizeLine_eq]; show 2 ≤ 16777216; omega), [u1, u2], .cons r1 (.cons r2 .nil), ⟨_, hg, rfl, 0, rfl⟩⟩⟩
    rw [upd_ne (Nat.ne_of_gt hbl)]
    exact I.hok.fresh (Nat.le_of_lt hbl)
  have gr : Same H H2 := fun b o e => g b o (by rw [upd_ne (ne_of_none e hn0)]; exact e)
  refine ⟨.ref s.heap.objs.size, H2, I3, rfl, q H2 s.heap.objs.size as gr hn0 (g _ _ upd_same) ?_⟩
  have all : ∀ (k : Nat) (as' : List Addr) (ents' : List NE), as'.length = ents'.length → (∀ (j : Nat) b, as'[j]? = some b → as[k + j]? = some b) → (∀ (j : Nat) e, ents'[j]? = some e → ents[k + j]? = some e) → Paired (fun t (e : NE) => TU H2 t [.ref e.2.1, e.2.2]) as' ents' := by
    intro k as'
    induction as' generalizing k with
    | nil =>
      intro ents' hl _ _
      cases ents' with
      | nil => exact .nil
      | cons => simp at hl
    | cons b as' ih =>
      intro ents' hl ha he
      cases ents' with
      | nil => simp at hl
      | cons e ents' =>
        refine .cons ?_ (ih (k + 1) ents' (by simpa using hl) (fun j b' hj => ?_) (fun j e' hj => ?_))
        · have i1 := ha 0 b rfl
          obtain ⟨vs, ⟨j, e', j1, j2, ev⟩, hH⟩ := qt b (List.mem_of_getElem? i1)
          have eij : k + 0 = j := (List.getElem?_inj (List.getElem?_eq_some_iff.mp i1).1 nd).mp (i1.trans j1.symm)
          subst eij
          have ee : e' = e := Option.some.inj (j2.symm.trans (he 0 e rfl))
          rw [ev, ee] at hH
          exact hH
        · have := ha (j + 1) b' (by simpa using hj)
          rwa [show k + 1 + j = k + (j + 1) by omega]
        · have := he (j + 1) e' (by simpa using hj)
          rwa [show k + 1 + j = k + (j + 1) by omega]
  exact all 0 as ents (by omega) (fun j b hj => by simpa using hj) (fun j e hj => by simpa using hj)
end
end Tn
set_option Elab.async false
set_option linter.all false
set_option maxRecDepth 100000
set_option maxHeartbeats 4000000
namespace Tn
open PySem PySem.Spec L2
/-! ### loops over the items of a dict with nested keys -/
def rRevL (K : PySem.W.Frag) : V → Hp → VK → Prop := fun x H1 Q => ∃ a xs, x = .ref a ∧ SqL K H1 a xs ∧ ∀ p, H1 p = none → Q (.ref p) (upd H1 p (.lst xs.reverse))
def rLcN (P : Program) (w : World) (g : TG) (tt : TT) (te : TE) (vs : List Nat) (σ : L2.St) (x : V) (H1 : Hp) (Q : VK) : Prop := ∃ d ents, x = .ref d ∧ H1 d = some (NDo P w d ents) ∧ ∀ o H2, But d H1 H2 → H2 d = some (.frz o (NDo P w d ents)) → ∀ D, H2 D = none → ∃ W : Nat → Nat → Hp → Prop, (∃ m, W 0 m (upd H2 D (.lst []))) ∧ ∀ i m H, W i m H →
  ((ItN P w d o ents).stop i H ∧ Q (.ref D) H) ∨ ((ItN P w d o ents).go i H ∧ ∃ Nx : Hp → Prop, (∀ H', Nx H' → ∃ m', m' < m ∧ W (i + 1) m' H') ∧ ∀ x H', (ItN P w d o ents).yld i H x H' → g x (wipe σ vs) H' fun σ2 H2 => wipe σ2 vs = wipe σ vs ∧ tt σ2 H2 fun b H3 =>
    if b = true then te σ2 H3 fun y H4 => ∃ acc, H4 D = some (.lst acc) ∧ acc.length < sizeLine ∧ Nx (upd H4 D (.lst (acc ++ [y]))) else Nx H3)
section
variable {K : PySem.W.Frag} {P : Program} {w : World} {σ : L2.St} {H : Hp} {Q : VK} {te t0 : TE} {g : TG} {tt : TT} {vs : List Nat}
theorem x_lcN (q : t0 σ H fun x H1 => rLcN P w g tt te vs σ x H1 Q) : tLc (iItemsN P w t0) g tt te vs σ H Q := q
theorem walk_itemsN {d : Addr} {o : Obj} {ents : List NE} : Walk (ItN P w d o ents) ents.length (fun H => H d = some (.frz o (NDo P w d ents))) (fun i H x H' => ∃ T k b v, ents[i]? = some (k, b, v) ∧ x = .ref T ∧ H T = none ∧ Same H H' ∧ TU H' T [.ref b, v]) :=
  ⟨fun _ _ hi q => ⟨q, hi⟩, fun _ q => ⟨q, Nat.le_refl _⟩, fun i H x H' _ _ y => y⟩
theorem y_lcN {d : Addr} {ents : List NE} (R : Addr → Nat → V → Hp → Prop) (mono : ∀ D ys i v H H', H D = some (.lst ys) → But D H H' → R D i v H → R D i v H') (h : H d = some (NDo P w d ents)) (hl : ents.length ≤ 1000)
    (hs : ∀ D i k b v T H' acc, ents[i]? = some (k, b, v) → H D = none → But d H H' → H' D = some (.lst acc) → TU H' T [.ref b, v] → ∀ Q' : VK, (∀ y H3, Same H' H3 → R D i y H3 → Q' y H3) → g (.ref T) (wipe σ vs) H' fun σ2 H2 => wipe σ2 vs = wipe σ vs ∧ te σ2 H2 Q')
    (mg : ∀ x σ H (Q Q' : L2.St → Hp → Prop), (∀ s h, Q s h → Q' s h) → g x σ H Q → g x σ H Q')
    (q : ∀ D H' acc, H D = none → But d H H' → H' D = some (.lst acc) → acc.length = ents.length → (∀ i y, acc[i]? = some y → R D i y H') → Q (.ref D) H') : rLcN P w g tYes te vs σ (.ref d) H Q := by
  refine ⟨d, ents, rfl, h, fun o H2 b2 e2 D hD => ?_⟩
  have hD0 : H D = none := b2.free e2 hD
  refine lc_it walk_itemsN (LcP R H2 D) (lcp_zero hD) (fun i H' _ p => p.1 _ _ e2) (fun i x H1 H' hi p y => ?_) (fun H' p => ?_)
  · obtain ⟨T, k, b, v, hkv, rfl, hT, sT, tT⟩ := y
    obtain ⟨s0, acc, ha, hla, hra⟩ := id p
    refine mg _ _ _ _ _ (fun s h z => ?_) (hs D i k b v T H' acc hkv hD0 ((b2.same s0).same sT) (sT _ _ ha) tT _ fun y H3 s3 r => lcp_step mono hD p (by omega) (sT.trans s3) r)
    exact ⟨z.1, by unfold tYes; dsimp only; rw [if_pos rfl]; exact z.2⟩
  · obtain ⟨s0, acc, ha, hla, hra⟩ := p
    exact q D H' acc hD0 (b2.same s0) ha hla hra
theorem x_revL {te : TE} (q : te σ H fun x H1 => rRevL K x H1 Q) : tRevL K te σ H Q := q
theorem y_revL {a : Addr} {xs : List V} (h : H a = some (.lst xs)) (q : ∀ p H', H p = none → Same H H' → H' p = some (.lst xs.reverse) → Q (.ref p) H') : rRevL K (.ref a) H Q := ⟨a, xs, rfl, SqL.of h, fun p hp => q p _ hp (Same.new hp) upd_same⟩
end
/-! ### keys -/
theorem nk_rows : ∀ {ks ks' : List Nat}, nkL (ks.map rowD) = nkL (ks'.map rowD) → ks = ks'
  | [], [], _ => rfl
  | [], _ :: _, h => by simp [nkL] at h
  | _ :: _, [], h => by simp [nkL] at h
  | k :: ks, k' :: ks', h => by
    rw [List.map_cons, List.map_cons, nkL, nkL] at h
    injection h with h1 h2
    simp only [rowD, nk, nkL, NestedKey.tup.injEq, List.cons.injEq, NestedKey.num.injEq, and_true] at h1
    have := nk_rows h2
    rw [this]
    congr 1
    omega
theorem nk_st {ks ks' : List Nat} {b b' : Bool} (h : nk (stD ks b) = nk (stD ks' b')) : ks = ks' ∧ b = b' := by
  simp only [stD, nk, nkL, NestedKey.tup.injEq, List.cons.injEq, NestedKey.num.injEq, and_true, true_and] at h
  refine ⟨nk_rows h.1, ?_⟩
  have := h.2
  cases b <;> cases b' <;> simp_all
theorem dp_rows : ∀ ks : List Nat, NestedKey.depthAll (nkL (ks.map rowD)) ≤ 1
  | [] => by simp [nkL, NestedKey.depthAll]
  | k :: ks => by
    have := dp_rows ks
    rw [List.map_cons, nkL, NestedKey.depthAll]
    simp only [rowD, nk, nkL, NestedKey.depth, NestedKey.depthAll]
    omega
theorem dp_st (ks : List Nat) (b : Bool) : (nk (stD ks b)).depth ≤ 4 := by
  have := dp_rows ks
  simp only [stD, nk, nkL, NestedKey.depth, NestedKey.depthAll]
  omega
abbrev endD (ks : List Nat) (b : Bool) (a : Nat) : PyData := .tuple [stD ks b, .int a]
theorem dp_end (ks : List Nat) (b : Bool) (a : Nat) : (nk (endD ks b a)).depth ≤ 8 := by
  have := dp_rows ks
  simp only [stD, endD, nk, nkL, NestedKey.depth, NestedKey.depthAll]
  omega
theorem nk_end {ks ks' : List Nat} {b b' : Bool} {a a' : Nat} (h : nk (endD ks b a) = nk (endD ks' b' a')) : ks = ks' ∧ b = b' ∧ a = a' := by
  simp only [endD, nk, nkL, NestedKey.tup.injEq, List.cons.injEq, NestedKey.num.injEq, and_true] at h
  have e : nk (stD ks b) = nk (stD ks' b') := by
    simp only [stD, nk, nkL, NestedKey.tup.injEq, List.cons.injEq, NestedKey.num.injEq, and_true]
    exact h.1
  obtain ⟨e1, e2⟩ := nk_st e
  exact ⟨e1, e2, by omega⟩
/-! ### ends: what it answers -/
def eAns (n s : Nat) (ks : List Nat) (b : Bool) (a : Nat) : Nat := if (b || decide (a ∈ ks)) = true then (a + s) % n else a
def eKs (ks : List Nat) (a : Nat) : List Nat := srt (addK ks a)
def eB (ks : List Nat) (b : Bool) (a : Nat) : Bool := b || decide (a ∈ ks)
theorem eAns_lt {n s : Nat} {ks : List Nat} {b : Bool} {a : Nat} (h : a < n) : eAns n s ks b a < n := by
  unfold eAns
  split
  · exact Nat.mod_lt _ (by omega)
  · exact h
theorem mod_inj {n s a c : Nat} (ha : a < n) (hc : c < n) (h : (a + s) % n = (c + s) % n) : a = c := by
  have e : (a + s) - n * ((a + s) / n) = (c + s) - n * ((c + s) / n) := by
    have h1 := Nat.div_add_mod (a + s) n
    have h2 := Nat.div_add_mod (c + s) n
    omega
  have h1 := Nat.div_add_mod (a + s) n
  have h2 := Nat.div_add_mod (c + s) n
  have h3 : (a + s) / n = (c + s) / n ∨ (a + s) / n < (c + s) / n ∨ (c + s) / n < (a + s) / n := by omega
  rcases h3 with h3 | h3 | h3
  · rw [h3] at h1
    omega
  · have : n * ((a + s) / n) + n ≤ n * ((c + s) / n) := by
      rw [← Nat.mul_succ]
      exact Nat.mul_le_mul_left _ h3
    omega
  · have : n * ((c + s) / n) + n ≤ n * ((a + s) / n) := by
      rw [← Nat.mul_succ]
      exact Nat.mul_le_mul_left _ h3
    omega
theorem ends_inj {n s : Nat} {ks : List Nat} {b : Bool} {a c : Nat} (ha : a < n) (hc : c < n) (h : nk (endD (eKs ks a) (eB ks b a) (eAns n s ks b a)) = nk (endD (eKs ks c) (eB ks b c) (eAns n s ks b c))) : a = c := by
  obtain ⟨_, h2, h3⟩ := nk_end h
  unfold eB at h2
  unfold eAns at h3
  rw [← h2] at h3
  split at h3
  · exact mod_inj ha hc h3
  · exact h3
def EndsAt (K : PySem.W.Frag) (H : Hp) (l : Addr) (n s : Nat) (ks : List Nat) (b : Bool) : Prop := ∃ ts : List Addr, H l = some (.lst (ts.map V.ref)) ∧ ts.length = n ∧ ∀ (a : Nat) t, ts[a]? = some t → ∃ v r, TU H t [v, .int (eAns n s ks b a : Nat), r] ∧ Rp H v (stD (eKs ks a) (eB ks b a)) ∧ RR K H r (mkRat 1 n)
def FE (K : PySem.W.Frag) (H : Hp) (n s : Nat) (ks : List Nat) (b : Bool) (a : Nat) (e : NE) : Prop := ∃ sv, TU H e.2.1 [sv, .int (eAns n s ks b a : Nat)] ∧ Rp H sv (stD (eKs ks a) (eB ks b a)) ∧ RR K H e.2.2 (mkRat 1 n) ∧ e.1 = nk (endD (eKs ks a) (eB ks b a) (eAns n s ks b a))
theorem FE.fz {K : PySem.W.Frag} {H H' : Hp} {n s : Nat} {ks : List Nat} {b : Bool} {a : Nat} {e : NE} (z : Fz K H H') (h : FE K H n s ks b a e) : FE K H' n s ks b a e := by
  obtain ⟨sv, h1, h2, h3, h4⟩ := h
  exact ⟨sv, h1.fz z, h2.fz z, h3.fz z, h4⟩
theorem FE.key {K : PySem.W.Frag} {H : Hp} {n s : Nat} {ks : List Nat} {b : Bool} {a : Nat} {e : NE} (h : FE K H n s ks b a e) : NKey H e.1 e.2.1 := by
  obtain ⟨sv, h1, h2, h3, h4⟩ := h
  rw [h4]
  exact ⟨_, Rp.tup h1 (.cons h2 (.cons (.int _) .nil)), rfl, dp_end _ _ _⟩
/-- the ways that are left, what is found so far -/
structure EI (P : Program) (w : World) (K : PySem.W.Frag) (H H1 : Hp) (lw lf : Addr) (wt : List Addr) (ms : List Mo) (n s : Nat) (ks : List Nat) (b : Bool) (i : Nat) : Prop where
  same : Same H H1
  fw : H lw = none
  ff : H lf = none
  ways : H1 lw = some (.lst ((wt.take (n - i)).map V.ref))
  wl : wt.length = n
  ml : ms.length = n
  wm : ∀ q t m, wt[q]? = some t → ms[n - 1 - q]? = some m → TU H1 t [.ref m.p, .int (n : Nat)]
  pw : ms.Pairwise (fun m m' => ∀ x ∈ m.all, x ∉ m'.all)
  fr : ∀ m ∈ ms, MoFree H m ∧ m.nm ∉ m.own ∧ lw ∉ m.all
  mo : ∀ j m, i ≤ j → ms[j]? = some m → MomAt K H1 m ks b [sIf, sPut, sAfter n s] ∧ NmAt H1 m.nm j
  fd : ∃ ents, H1 lf = some (NDo P w lf ents) ∧ ents.length = i ∧ ∀ a e, ents[a]? = some e → FE K H1 n s ks b a e
section
variable {K : PySem.W.Frag} {H H1 H2 : Hp} {m m' : Mo} {ks : List Nat} {b : Bool} {ps : List PyData} {a : Nat}
theorem Same.bm (s : Same H H1) (f : MoFree H m) (x : BM m H1 H2) : Same H H2 := fun c o e =>
  x c o (ne_of_none e (f _ (by simp [Mo.all]))) (ne_of_none e (f _ (by simp [Mo.all]))) (ne_of_none e (f _ (by simp [Mo.all]))) (s c o e)
theorem MomAt.bm (h : MomAt K H m' ks b ps) (h1 : MomAt K H m ks' b' ps') (h2 : NmAt H m.nm a) (ap : ∀ x ∈ m'.all, x ∉ m.all) (x : BM m H H2) : MomAt K H2 m' ks b ps := by
  obtain ⟨dx, pd, g0, g1, g2, g3, g4, g5⟩ := h1
  have oa : ∀ c, c ∈ m'.own → c ∈ m'.all := fun c hc => Classical.byContradiction fun z => Mo.own_all z hc
  refine h.keep fun c o k e => x c o ?_ ?_ ?_ e
  · rcases k with k | ⟨y, u, rfl⟩
    · exact fun z => ap c (oa c k) (by simp [Mo.all, z])
    · exact ne_of e g0 fun z => by cases z
  · rcases k with k | ⟨y, u, rfl⟩
    · exact fun z => ap c (oa c k) (by simp [Mo.all, z])
    · exact ne_of e g4 fun z => by cases z
  · rcases k with k | ⟨y, u, rfl⟩
    · exact fun z => ap c (oa c k) (by simp [Mo.all, z])
    · exact ne_of e h2 fun z => by cases z
theorem NmAt.bm {a' : Nat} (hN : NmAt H m'.nm a') (ap : ∀ x ∈ m'.all, x ∉ m.all) (x : BM m H H2) : NmAt H2 m'.nm a' := by
  have q := ap _ m'.nm_all
  simp only [Mo.all, List.mem_cons, List.not_mem_nil, or_false, not_or] at q
  exact x _ _ q.1 q.2.1 q.2.2.1 hN
theorem MomAt.butx {l : Addr} {φ : Heap → Prop} (bt : But l H H2) (hl : H l = some (.ext φ)) (h : MomAt K H m ks b ps) : MomAt K H2 m ks b ps := by
  obtain ⟨dx, pd, g0, g1, g2, g3, g4, g5⟩ := h
  exact ⟨dx, pd, bt _ _ (ne_of g0 hl fun z => by cases z) g0, bt _ _ (ne_of g1 hl fun z => by cases z) g1, bt _ _ (ne_of g2 hl fun z => by cases z) g2, bt _ _ (ne_of g3 hl fun z => by cases z) g3, bt _ _ (ne_of g4 hl fun z => by cases z) g4, g5.tz (Tz.but bt hl fun o v z => by cases z)⟩
theorem BM.ext (hM : MomAt K H m ks b ps) (hN : NmAt H m.nm a) (x : BM m H H2) {l : Addr} {φ : Heap → Prop} (e : H l = some (.ext φ)) : H2 l = some (.ext φ) := by
  obtain ⟨dx, pd, g0, g1, g2, g3, g4, g5⟩ := hM
  exact x l _ (ne_of e g0 fun z => by cases z) (ne_of e g4 fun z => by cases z) (ne_of e hN fun z => by cases z) e
theorem MomAt.known (hM : MomAt K H m ks b ps) (hN : NmAt H m.nm a) {l : Addr} (f : H l = none) : l ∉ m.all := by
  obtain ⟨dx, pd, g0, g1, g2, g3, g4, g5⟩ := hM
  have k : ∀ {c : Addr} {o : HO}, H c = some o → l ≠ c := fun e z => by
    rw [z, e] at f
    cases f
  simp only [Mo.all, List.mem_cons, List.not_mem_nil, or_false, not_or]
  exact ⟨k g0, k g4, k hN, k g1, k g2, k g3⟩
theorem refs_ex {R : Nat → Addr → Prop} : ∀ {acc : List V}, (∀ (i : Nat) y, acc[i]? = some y → ∃ t, y = .ref t ∧ R i t) → ∃ wt : List Addr, acc = wt.map V.ref ∧ ∀ (i : Nat) t, wt[i]? = some t → R i t := by
  intro acc
  induction acc generalizing R with
  | nil => exact fun _ => ⟨[], rfl, fun i t h => by simp at h⟩
  | cons v acc ih =>
    intro h
    obtain ⟨t, rfl, ht⟩ := h 0 v rfl
    obtain ⟨wt, rfl, hw⟩ := ih (R := fun i => R (i + 1)) fun i y e => h (i + 1) y (by simpa using e)
    refine ⟨t :: wt, rfl, fun i t' e => ?_⟩
    cases i with
    | zero =>
      cases e
      exact ht
    | succ i => exact hw i t' (by simpa using e)
end
end Tn
set_option Elab.async false
set_option linter.all false
set_option maxRecDepth 100000
set_option maxHeartbeats 8000000
set_option pp.maxSteps 400
namespace Tn
open PySem PySem.Spec L2
section
variable {K : PySem.W.Frag} {P : Program} {w : World} {σ : L2.St} {H : Hp} {Q : VK} {D : Ends} {td ty tx tv te : TE} {g : TG} {tt : TT} {vs : List Nat}
theorem x_dnewN (q : ∀ p H', H p = none → Same H H' → H' p = some (NDo P w p []) → Q (.ref p) H') : tDNewN P w σ H Q := q
theorem x_nget2 (q : td σ H fun x H1 => ∃ a ents, x = .ref a ∧ H1 a = some (NDo P w a ents) ∧ ty σ H1 fun y H2 => tx σ H2 fun z H3 => ∃ ents' k b, H3 a = some (NDo P w a ents') ∧ NDok H3 ents' ∧ y = .ref b ∧ NKey H3 k b ∧ Q ((ndGet ents' k).getD z) H3) : tNGet2 P w td ty tx σ H Q := q
theorem x_nput (q : tv σ H fun v H1 => td σ H1 fun x H2 => ty σ H2 fun y H3 => ∃ a ents k b, x = .ref a ∧ H3 a = some (NDo P w a ents) ∧ NDok H3 ents ∧ y = .ref b ∧ NKey H3 k b ∧ ents.length ≤ 100000 ∧ ∀ H4, But a H3 H4 → H4 a = some (NDo P w a (ndPut ents k b v)) → D.nx σ H4) : sNPut P w td ty tv D σ H := q
end
local macro_rules | `(tactic| walk_at "tz") => `(tactic| first
  | ((refine' Tz.same ?s); (case s => with_reducible assumption))
  | ((refine' Tz.but ?b ?h ?n); (case b => with_reducible assumption); (case h => walk_at "look"); (case n => (intro o v z; cases z))))
local macro_rules | `(tactic| walk_at "fz") => `(tactic| first
  | ((refine' Fz.same ?s); (case s => with_reducible assumption))
  | ((refine' Fz.but ?b ?h ?n); (case b => with_reducible assumption); (case h => walk_at "look"); (case n => first | exact nf_lst | exact nf_dK | exact nf_ext | assumption)))
local macro_rules | `(tactic| walk_at "look") => `(tactic| first
  | with_reducible assumption
  | ((with_reducible refine' Same.app ?s ?m); (case s => with_reducible assumption); (case m => walk_at "look"))
  | ((with_reducible refine' RR.fz ?z ?m); (case z => walk_at "fz"); (case m => walk_at "look"))
  | ((with_reducible refine' Rp.tz ?z ?m); (case z => walk_at "tz"); (case m => walk_at "look"))
  | ((with_reducible refine' TU.tz ?z ?m); (case z => walk_at "tz"); (case m => walk_at "look"))
  | ((with_reducible refine' RpL.tz ?z ?m); (case z => walk_at "tz"); (case m => walk_at "look"))
  | ((with_reducible refine' GM.fz ?z ?m); (case z => walk_at "fz"); (case m => walk_at "look"))
  | ((with_reducible refine' But.app' ?b ?n ?m); (case b => with_reducible assumption); (case n => first | assumption | (refine Ne.symm ?_; assumption)); (case m => walk_at "look"))
  | ((with_reducible refine' But.app ?b ?l ?d ?m); (case b => with_reducible assumption); (case m => walk_at "look"); (case l => walk_at "look"); (case d => (intro z; cases z))))
local macro_rules | `(tactic| walk_at "rp") => `(tactic| first
  | (with_reducible assumption)
  | walk_at "look"
  | exact Rp.bl _ | exact Rp.int _ | exact Rp.str _ | exact Rp.non
  | ((refine' Rp.tup ?h ?l); (case h => walk_at "look"); (case l => walk_at "rpl")))
local macro_rules | `(tactic| walk_at "rpl") => `(tactic| first
  | exact RpL.nil
  | ((refine' RpL.cons ?h ?l); (case h => walk_at "rp"); (case l => walk_at "rpl")))
local macro_rules | `(tactic| walk_at "vc") => `(tactic| repeat (first
  | with_reducible refine' x_seq ?_
  | with_reducible refine' x_ifS ?_
  | with_reducible refine' x_asg ?_
  | with_reducible refine' x_drop ?_
  | with_reducible refine' x_ret ?_
  | with_reducible refine' x_name ?_
  | with_reducible refine' x_c ?_
  | ((with_reducible refine' x_var ?h ?_); (case h => rfl))
  | with_reducible refine' x_op ?_
  | with_reducible refine' x_un ?_
  | with_reducible refine' x_tup ?_
  | with_reducible refine' x_lst ?_
  | ((with_reducible refine' x_gtup ?h ?l ?_); (case h => walk_at "look"); (case l => rfl))
  | ((with_reducible refine' x_gtup' ?h ?l ?_); (case h => walk_at "look"); (case l => rfl))
  | with_reducible refine' x_gcons ?_
  | with_reducible refine' x_gnil ?_
  | with_reducible refine' x_nil ?_
  | with_reducible refine' x_cons ?_
  | with_reducible refine' x_call ?_
  | with_reducible refine' x_meth ?_
  | ((with_reducible refine' x_methv ?h ?l ?_); (case h => walk_at "look"); (case l => first | rfl | decide +kernel))
  | with_reducible refine' x_make ?_
  | with_reducible refine' x_cb ?_
  | with_reducible refine' x_test ?_
  | with_reducible refine' x_B ?_
  | with_reducible refine' x_and ?_
  | with_reducible refine' x_or ?_
  | with_reducible refine' x_not ?_
  | with_reducible refine' x_if ?_
  | with_reducible refine' x_andV ?_
  | with_reducible refine' x_orV ?_
  | with_reducible refine' x_notV ?_
  | with_reducible refine' x_next ?_
  | with_reducible refine' x_gfldc ?_
  | with_reducible refine' x_bmF ?_
  | with_reducible refine' x_bmF0 ?_
  | ((with_reducible refine' y_tyL ?h ?_); (case h => walk_at "look"))
  | ((with_reducible refine' y_tyD ?h ?_); (case h => walk_at "look"))
  | ((with_reducible refine' y_lenL ?h ?_); (case h => walk_at "look"))
  | ((with_reducible refine' y_lenR ?h ?_); (case h => walk_at "look"))
  | with_reducible refine' x_forT ?_
  | with_reducible refine' x_forL ?_
  | with_reducible refine' x_lcT ?_
  | with_reducible refine' x_lcL ?_
  | ((with_reducible refine' y_tupleL ?h ?_); (case h => walk_at "look"); intro _ _ _ _ _)
  | ((with_reducible refine' y_tupleR ?h ?_); (case h => walk_at "look"))
  | ((with_reducible refine' y_tupleT ?h ?_); (case h => walk_at "look"))
  | with_reducible refine' x_cont ?_
  | with_reducible refine' x_dget ?_
  | with_reducible refine' x_din ?_
  | with_reducible refine' x_dput ?_
  | ((with_reducible refine' x_dnewN ?_); intro _ _ _ _ _)
  | with_reducible refine' x_nget2 ?_
  | with_reducible refine' x_nput ?_
  | with_reducible refine' x_lcN ?_
  | with_reducible refine' x_revL ?_
  | with_reducible refine' x_sfldc ?_
  | with_reducible refine' x_bl ?_
  | ((with_reducible refine' x_fldc ?h ?l ?_); (case h => walk_at "look"); (case l => first | rfl | decide +kernel))
  | ((with_reducible refine' x_setc ?h ?l ?_); (case h => walk_at "look"); (case l => exact Nat.le_of_ble_eq_true rfl); intro _ _ _)
  | ((with_reducible refine' y_num ?h ?_); (case h => walk_at "look"))
  | ((with_reducible refine' y_den ?h ?_); (case h => walk_at "look"))
  | with_reducible refine' y_I0 ?_
  | ((with_reducible refine' y_ixS ?h ?e ?a ?_); (case h => walk_at "look"); (case e => rfl); (case a => rfl))
  | ((with_reducible refine' y_ixI ?h ?e ?a ?_); (case h => walk_at "look"); (case e => rfl); (case a => rfl))
  | ((with_reducible refine' y_ixB ?h ?e ?a ?_); (case h => walk_at "look"); (case e => rfl); (case a => rfl))
  | ((with_reducible refine' y_ixR ?h ?e ?a ?_); (case h => walk_at "look"); (case e => rfl); (case a => rfl); intro _ _)
  | ((with_reducible refine' y_ixT ?h ?a ?_); (case h => walk_at "look"); (case a => rfl))
  | ((with_reducible refine' y_eq ?s ?_); (case s => rfl))
  | ((with_reducible refine' y_ne ?s ?_); (case s => rfl))
  | ((with_reducible refine' x_rtup ?l ?_); (case l => exact Nat.le_of_ble_eq_true rfl); intro _ _ _ _ _)
  | ((with_reducible refine' x_rlst ?l ?_); (case l => exact Nat.le_of_ble_eq_true rfl); intro _ _ _ _ _)
  | ((with_reducible refine' ite_t ?h ?_); (case h => first | with_reducible rfl | assumption | exact decide_eq_true (by omega) | decide +kernel | rfl))
  | ((with_reducible refine' ite_f ?h ?_); (case h => first | with_reducible rfl | assumption | exact decide_eq_false (by omega) | decide +kernel | rfl))))
instance {r : Rat} : Decidable (Sm r) := by unfold Sm; infer_instance
theorem sm_1n : ∀ n : Nat, n < 60 → 0 < n → Sm (mkRat 1 n) := by decide +kernel
theorem pw_get {α : Type} {R : α → α → Prop} {l : List α} (h : l.Pairwise R) {i j : Nat} {a b : α} (hij : i < j) (ha : l[i]? = some a) (hb : l[j]? = some b) : R a b := by
  obtain ⟨h1, rfl⟩ := List.getElem?_eq_some_iff.mp ha
  obtain ⟨h2, rfl⟩ := List.getElem?_eq_some_iff.mp hb
  exact List.pairwise_iff_getElem.mp h i j h1 h2 hij
theorem ndGet_none {ents : List NE} {k : NestedKey} (h : ∀ e ∈ ents, e.1 ≠ k) : ndGet ents k = none := by
  unfold ndGet
  rw [List.find?_eq_none.mpr]
  · rfl
  · intro e he
    simpa using h e he
def sp_Runner_ends (K : PySem.W.Frag) : Sp := fun vs H Q _ => ∃ (x st : V) (n s : Nat) (ks : List Nat) (b : Bool), vs = [x, st, .str "p", .int 0] ∧ RunAt K H x n s ∧ Rp H st (stD ks b) ∧ ks.Pairwise (· ≤ ·) ∧ ks.Nodup ∧ ks.length < 60 ∧ (∀ k ∈ ks, k < n) ∧ 0 < n ∧ n < 60 ∧ s < 1000 ∧
  ∀ l H', Same H H' → EndsAt K H' l n s ks b → Q (.ref l) H'
section
variable {P : Program} {w : World} {K : PySem.W.Frag} {mg : Str → Option Value} {base : Heap}
theorem sc_Runner_ends : FnScope ["self", "state", "name", "given", "proc", "names", "found", "ways", "count", "moment", "size", "more", "end", "chance", "local", "other"] ["self", "state", "name", "given"] (defScope s_Runner_ends) := ⟨rfl, rfl, rfl, by decide +kernel, rfl, by decide +kernel, by decide +kernel⟩
theorem ok_Runner_ends (T : Tx K mg) {fd : FuncData} (F : FnX K d_Runner_ends fd) : FnOk P w K mg base CX0 6 (He.fAd K d_Runner_ends.at_) fd ["self", "state", "name", "given"] (sp_Runner_ends K) := by
  refine F.ok sc_Runner_ends (fun vs H Q E h => ?_) (fun cdv A outer s0 H vs Q E hr h => ?_)
  · obtain ⟨x, st, n, s, ks, b, rfl, _⟩ := h
    rfl
  obtain ⟨x, st, n, s, ks, b, rfl, hx, hst, srtd, nd, hl, hk, n0, hn, hs, q⟩ := h
  have hu := hu1 hr
  refine ⟨_, PSs.nox (pss_cons (ps_set (i := 4) sc_Runner_ends.nd rfl (Or.inl rfl) (pe_metc (c_Game_proc T) (pe_fldc T.cl_Runner T.n_Runner_game (pv 0)) T.cl_Game T.m_Game_proc (hr.mono (by omega)) (pa_cons (pv 2) pa_nil)))
      (pss_cons (ps_if (PW.pt (pw_or (pt_cmpR op_isN (pv 4) pe_non (nomark _)) (pw_or1 (pt_cmpR op_lt (pv 3) pe_int (nomark _))))) pss_never pss_nil)
      (pss_cons (ps_set (i := 5) sc_Runner_ends.nd rfl (Or.inl rfl) (pe_callTy (call_dictP rfl) (by rfl) T.f_dict (by decide +kernel) (pa_cons (pe_lc (own := [("local", 14)]) (g := gName 14) (tt := tYes) (by rfl) sc_Runner_ends.nd (pi_tup (pe_ix ix_tupF (pv 4) pe_int (fun _ _ => rfl))) (blkOk_by (own := [("local", 14)]) (N := ["self", "state", "name", "given", "proc", "names", "found", "ways", "count", "moment", "size", "more", "end", "chance", "local", "other"]) (sc := defScope s_Runner_ends) (by decide +kernel)) (fun _ _ _ _ _ => (pg_name (i := 14) sc_Runner_ends.nd rfl (Or.inl rfl))) (fun _ _ _ _ _ => pts_nil) (fun _ _ _ _ _ => (pe_tupF (pa_cons (pv 14) (pa_cons pe_int pa_nil))))) pa_nil)))
      (pss_cons (ps_dput hu (pv 5) (pe_ix ix_tupF (pe_ix ix_tupF (pv 4) pe_int (fun _ _ => rfl)) pe_int (fun _ _ => rfl)) (pe_op op_mod (pv 3) (pe_ix ix_tupF (pv 4) pe_int (fun _ _ => rfl))) rfl)
      (pss_cons (ps_set (i := 6) sc_Runner_ends.nd rfl (Or.inl rfl) (pe_dnewN (P := P) (w := w) rfl rfl))
      (pss_cons (ps_set (i := 7) sc_Runner_ends.nd rfl (Or.inl rfl) (pe_lst (pa_cons (pe_tupF (pa_cons (pe_mkc (c_Moment_init T) T.mk_Moment (hr.mono (by omega)) rfl T.g_Moment (pa_cons (pv 1) (pa_cons (pv 5) (pa_cons (pe_metc (c_Runner_stacked T) (pv 0) T.cl_Runner T.m_Runner_stacked (hr.mono (by omega)) (pa_cons (pe_ix ix_tupF (pv 4) pe_int (fun _ _ => rfl)) (pa_cons pe_non pa_nil))) pa_nil)))) (pa_cons pe_int pa_nil))) pa_nil)))
      (pss_cons (ps_set (i := 8) sc_Runner_ends.nd rfl (Or.inl rfl) pe_int)
      (pss_cons (ps_while PassesOwn.never (pt_truth (pv 7) (by intro _; rfl)) (pss_cons (ps_asg (pe_bmF0 PySem.F.plainAttrs_list PySem.F.slot_list_pop PySem.F.type_list_pop mt_pop (pv 7)) (pg_tup rfl (pgs_cons (pg_name (i := 9) sc_Runner_ends.nd rfl (Or.inl rfl)) (pgs_cons (pg_name (i := 10) sc_Runner_ends.nd rfl (Or.inr rfl)) pgs_nil))))
      (pss_cons (ps_set (i := 11) sc_Runner_ends.nd rfl (Or.inr rfl) (pe_metc (c_Runner_go T) (pv 0) T.cl_Runner T.m_Runner_go (hr.mono (by omega)) (pa_cons (pv 9) pa_nil)))
      (pss_cons (ps_if (pt_truth (pv 11) (by intro _; rfl)) (pss_cons (ps_expr (pe_bmF PySem.F.plainAttrs_list PySem.F.slot_list_extend PySem.F.type_list_extend mt_extend (pv 7) (pa_cons (pe_lc (own := [("other", 15)]) (g := gName 15) (tt := tYes) (by rfl) sc_Runner_ends.nd (pi_list (pe_revL (pv 11))) (blkOk_by (own := [("other", 15)]) (N := ["self", "state", "name", "given", "proc", "names", "found", "ways", "count", "moment", "size", "more", "end", "chance", "local", "other"]) (sc := defScope s_Runner_ends) (by decide +kernel)) (fun _ _ _ _ _ => (pg_name (i := 15) sc_Runner_ends.nd rfl (Or.inl rfl))) (fun _ _ _ _ _ => pts_nil) (fun _ _ _ _ _ => (pe_tupF (pa_cons (pv 15) (pa_cons (pe_op op_mul (pv 10) (pe_callB call_lenF (by rfl) T.f_len PySem.boot_len (pa_cons (pv 11) pa_nil))) pa_nil))))) pa_nil)))
      (pss_one ps_continue)) pss_nil)
      (pss_cons (ps_set (i := 8) sc_Runner_ends.nd rfl (Or.inl rfl) (pe_op op_add (pv 8) pe_int))
      (pss_cons (ps_if (pt_cmpR op_gt (pv 8) (pe_gi (by rfl) T.i_MOST_WAYS) (nomark _)) pss_never pss_nil)
      (pss_cons (ps_set (i := 12) sc_Runner_ends.nd rfl (Or.inl rfl) (pe_tupF (pa_cons (pe_metc0 (c_Moment_state T) (pv 9) T.cl_Moment T.m_Moment_state (hr.mono (by omega))) (pa_cons (pe_op op_mod (pe_metc (c_Runner_value T) (pv 0) T.cl_Runner T.m_Runner_value (hr.mono (by omega)) (pa_cons (pe_ix ix_tupF (pv 4) pe_int (fun _ _ => rfl)) (pa_cons (pv 9) pa_nil))) (pe_ix ix_tupF (pv 4) pe_int (fun _ _ => rfl))) pa_nil))))
      (pss_one (ps_nput (P := P) (w := w) rfl rfl hr.units (pv 6) (pv 12) (pe_op (op_own (c_Ratio_add T) T.m_Ratio_add T.self_Ratio (hr.mono (by omega))) (pe_nget2 (P := P) (w := w) rfl rfl hr.units (pv 6) (pv 12) (pe_mkc (c_Ratio_init1 T) T.mk_Ratio (hr.mono (by omega)) rfl T.g_Ratio (pa_cons pe_int pa_nil)) ⟨rfl, rfl, rfl, rfl⟩) (pe_mkc (c_Ratio_init T) T.mk_Ratio (hr.mono (by omega)) rfl T.g_Ratio (pa_cons pe_int (pa_cons (pv 10) pa_nil)))) rfl)))))))))
      (pss_one (ps_ret (pe_lc (own := [("end", 12), ("chance", 13)]) (g := gTup K 2 (gCons (gName 12) (gCons (gName 13) gNil))) (tt := tYes) (by rfl) sc_Runner_ends.nd (pi_itemsN (P := P) (w := w) rfl rfl (pv 6)) (blkOk_by (own := [("end", 12), ("chance", 13)]) (N := ["self", "state", "name", "given", "proc", "names", "found", "ways", "count", "moment", "size", "more", "end", "chance", "local", "other"]) (sc := defScope s_Runner_ends) (by decide +kernel)) (fun _ _ _ _ _ => (pg_tup rfl (pgs_cons (pg_name (i := 12) sc_Runner_ends.nd rfl (Or.inl rfl)) (pgs_cons (pg_name (i := 13) sc_Runner_ends.nd rfl (Or.inl rfl)) pgs_nil)))) (fun _ _ _ _ _ => pts_nil) (fun _ _ _ _ _ => (pe_tupF (pa_cons (pe_ix ix_tupF (pv 12) pe_int (fun _ _ => rfl)) (pa_cons (pe_ix ix_tupF (pv 12) pe_int (fun _ _ => rfl)) (pa_cons (pv 13) pa_nil)))))))))))))))), ?_⟩
  walk_at "vc"
  refine y_game hx fun g hg => ?_
  obtain ⟨ga, gdx, gv1, gv2, gv3, gv4, rfl, gh, _⟩ := id hg
  walk_at "vc"
  refine ⟨_, n, s, rfl, hg, fun pv hpv => ?_⟩
  obtain ⟨pa, pxs, rfl, hp1, hp2⟩ := hpv.t_
  walk_at "vc"
  refine ⟨rfl, ?_⟩
  walk_at "vc"
  rename_i v1 hv1
  obtain ⟨a1, x1, rfl, h1a, h1b⟩ := hv1.t_
  refine y_lcT (fun D i v H => ∃ (t : Addr) (k : Str), v = .ref t ∧ (["g", "a"] : List Str)[i]? = some k ∧ TU H t [.str k, .int 0]) (fun D ys i v H H' hD bt ⟨t, k, e1, e2, e3⟩ => ⟨t, k, e1, e2, e3.tz (Tz.but bt hD (fun o v z => by cases z))⟩) h1a (by rw [h1b.len]; exact Nat.le_of_ble_eq_true rfl) (fun D i x H' acc hi hD s1 hacc Q' q' => ?_) mg_name fun D H1 acc hD s1 hacc hla hr1 => ?_
  · obtain ⟨d, hd, hr'⟩ := h1b.get' hi
    have hx' : ∃ k : Str, (["g", "a"] : List Str)[i]? = some k ∧ x = .str k := by
      match i, hd with
      | 0, hd => cases hd; exact ⟨"g", rfl, hr'.s_⟩
      | 1, hd => cases hd; exact ⟨"a", rfl, hr'.s_⟩
      | i + 2, hd => cases hd
    obtain ⟨k, hk', rfl⟩ := hx'
    walk_at "vc"
    refine ⟨rfl, ?_⟩
    walk_at "vc"
    rename_i t2 H2 f2 s2 t2'
    exact q' _ _ s2 ⟨t2, k, rfl, hk', t2'⟩
  rw [h1b.len] at hla
  obtain ⟨y1, y2, rfl⟩ : ∃ y1 y2, acc = [y1, y2] := by
    match acc, hla with
    | [y1, y2], _ => exact ⟨y1, y2, rfl⟩
  obtain ⟨t1, k1, rfl, e1, hT1⟩ := hr1 0 y1 rfl
  obtain ⟨t2, k2, rfl, e2, hT2⟩ := hr1 1 y2 rfl
  cases e1
  cases e2
  walk_at "vc"
  refine ⟨D, [t1, t2], [(Sum.inr "g", .int 0), (Sum.inr "a", .int 0)], rfl, SqL.of hacc, .cons hT1.sq (.cons hT2.sq .nil), fun nm hnm => ?_⟩
  have sN : Same H1 (upd H1 nm (.dK (mergeK [] [(Sum.inr "g", .int 0), (Sum.inr "a", .int 0)]))) := Same.new hnm
  have hN : (upd H1 nm (.dK (mergeK [] [(Sum.inr "g", .int 0), (Sum.inr "a", .int 0)]))) nm = some (.dK [(Sum.inr "g", .int 0), (Sum.inr "a", .int 0)]) := upd_same
  have fnm : H nm = none := s1.free hnm
  generalize hH2 : upd H1 nm (.dK (mergeK [] [(Sum.inr "g", .int 0), (Sum.inr "a", .int 0)])) = H2 at sN hN
  have s12 : Same H H2 := s1.trans sN
  walk_at "vc"
  refine y_I (by decide : (0 : Int) < 1) ?_
  walk_at "vc"
  rename_i v2 hv2
  refine y_dputS (s := "g") hN (Nat.le_of_ble_eq_true rfl) fun H3 b3 e3 => ?_
  have hN3 : NmAt H3 nm 0 := e3
  have sH3 : Same H H3 := Same.but s12 fnm b3
  walk_at "vc"
  rename_i lf H4 ff4 s4 e4
  have sH4 : Same H H4 := sH3.trans s4
  walk_at "vc"
  refine y_runM (hx.same sH4) (fun _ => rfl) ?_
  walk_at "vc"
  rename_i v5 hv5
  refine ⟨_, _, _, _, [], rfl, hv5, Rp.non, fun v6 H6 s6 r6 => ?_⟩
  have sH6 : Same H H6 := sH4.trans s6
  walk_at "vc"
  intro px dx hpx hdx ne
  have sx : Same H6 (upd (upd H6 dx (.own px)) px (.ins (He.ga K "Moment") dx [])) := fun c o e => by
    rw [upd_ne (ne_of_none e hpx), upd_ne (ne_of_none e hdx)]
    exact e
  refine ⟨px, dx, nm, st, v6, ks, b, [sDraw n, sIf, sPut, sAfter n s], rfl, upd_same, (hst.same sH6).same sx, nd, r6.same sx, fun H7 dt l1 lt l3 b7 f1 f2 f3 f4 hM => ⟨rfl, ?_⟩⟩
  have hM : MomAt K H7 ⟨px, dt, nm, l1, lt, l3⟩ ks b [sDraw n, sIf, sPut, sAfter n s] := hM
  have s67 : Same H6 H7 := Same.but sx hpx b7
  have hN7 : NmAt H7 nm 0 := s67 _ _ (s6 _ _ (s4 _ _ hN3))
  have e7 : H7 lf = some (NDo P w lf []) := s67 _ _ (s6 _ _ e4)
  have sH7 : Same H H7 := sH6.trans s67
  walk_at "vc"
  rename_i t8 H8 f8 s8 tu8 lw H9 f9 s9 e9
  have sH9 : Same H H9 := (sH7.trans s8).trans s9
  have flf : H lf = none := sH3.free ff4
  have flw : H lw = none := (sH7.trans s8).free f9
  have s79 : Same H7 H9 := s8.trans s9
  let m0 : Mo := ⟨px, dt, nm, l1, lt, l3⟩
  have hM9 : MomAt K H9 m0 ks b [sDraw n, sIf, sPut, sAfter n s] := hM.same s79
  have hN9 : NmAt H9 m0.nm 0 := hN7.same s79
  have x6 : ∀ {c : Addr}, upd (upd H6 dx (.own px)) px (.ins (He.ga K "Moment") dx []) c = none → H c = none := fun h => sH6.free (sx.free h)
  have fm0 : MoFree H m0 := by
    intro c hc
    simp only [Mo.all, List.mem_cons, List.not_mem_nil, or_false] at hc
    rcases hc with rfl | rfl | rfl | rfl | rfl | rfl
    · exact sH6.free hpx
    · exact x6 f1
    · exact fnm
    · exact x6 f2
    · exact x6 f3
    · exact x6 f4
  have nn0 : m0.nm ∉ m0.own := by
    have h6 : H6 nm ≠ none := by
      rw [s6 _ _ (s4 _ _ hN3)]
      exact fun z => by cases z
    have g6 : ∀ {c : Addr}, upd (upd H6 dx (.own px)) px (.ins (He.ga K "Moment") dx []) c = none → nm ≠ c := fun h z => h6 (z ▸ sx.free h)
    simp only [Mo.own, List.mem_cons, List.not_mem_nil, or_false, not_or]
    exact ⟨fun z => h6 ((congrArg H6 z).trans hpx), g6 f1, g6 f2, g6 f3, g6 f4⟩
  let W : Nat → L2.St → Hp → Prop := fun c σ' H' => (c = n + 1 ∧ σ' = [some x, some st, some (.str "p"), some (.int 0), some (.ref pa), some (.ref nm), some (.ref lf), some (.ref lw), some (.int 0), none, none, none, none, none, none, none] ∧ H' = H9) ∨
    ∃ wt ms i, c = n - i ∧ i ≤ n ∧ EI P w K H H' lw lf wt ms n s ks b i ∧ ∃ z1 z2 z3 z4 z5 z6 z7, σ' = [some x, some st, some (.str "p"), some (.int 0), some (.ref pa), some (.ref nm), some (.ref lf), some (.ref lw), some (.int (i : Nat)), z1, z2, z3, z4, z5, z6, z7]
  refine ⟨W, ⟨n + 1, .inl ⟨rfl, rfl, rfl⟩⟩, ?_⟩
  rintro c σ' H' (⟨rfl, rfl, rfl⟩ | ⟨wt, ms, i, rfl, hi, ei, z1, z2, z3, z4, z5, z6, z7, rfl⟩)
  · refine ⟨_, rfl, true, .inl ⟨_, SqL.of e9, rfl⟩, ?_⟩
    refine ite_t rfl ⟨fun σ' H' => ∃ c', c' < n + 1 ∧ W c' σ' H', fun _ _ h => h, ?_⟩
    walk_at "vc"
    refine y_pop e9 rfl fun H10 b10 e10 => ?_
    have tu10 : TU H10 t8 [.ref px, .int 1] := (tu8.same s9).tz (Tz.but b10 e9 fun o v z => by cases z)
    have nlw : lw ∉ m0.all := (hM.same s8).known (hN7.same s8) f9
    have hM10 := hM9.but b10 e9 (fun _ _ z => by cases z) (Mo.own_all nlw)
    have hN10 : NmAt H10 m0.nm 0 := b10 _ _ (fun z => nlw (z ▸ m0.nm_all)) hN9
    have sH10 : Same H H10 := Same.but sH9 flw b10
    have hx10 : RunAt K H10 x n s := hx.same sH10
    walk_at "vc"
    refine y_runM hx10 (fun _ => rfl) ?_
    walk_at "vc"
    refine ⟨x, m0, ks, b, [sDraw n, sIf, sPut, sAfter n s], 0, n, s, rfl, hx10, hM10, hN10, nn0, by omega, fun k h => by have := hk k h; omega, nd, n0, by omega, hs, .inl ⟨[sIf, sPut, sAfter n s], rfl, fun lm ms H11 bm11 fr11 e11 lenm pw11 nn11 al11 => ?_⟩⟩
    have e11w : H11 lw = some (.lst []) := bm11.lst hM10 hN10 e10
    have sH11 : Same H H11 := Same.bm sH10 fm0 bm11
    have e11f : H11 lf = some (NDo P w lf []) := bm11.ext hM10 hN10 (b10 _ _ (ne_of (s79 _ _ e7) e9 fun z => by cases z) (s79 _ _ e7))
    walk_at "vc"
    have tr : true = !(ms.map fun m => V.ref m.p).isEmpty := by
      cases ms with
      | nil => simp at lenm; omega
      | cons => rfl
    refine ⟨true, .inl ⟨_, SqL.of e11, tr⟩, ?_⟩
    walk_at "vc"
    refine y_revL e11 fun pr H12 f12 s12' e12 => ?_
    refine y_lcL (fun D i v H' => ∃ (t : Addr) (m : Mo), v = .ref t ∧ ms.reverse[i]? = some m ∧ TU H' t [.ref m.p, .int (n : Nat)]) (fun D ys i v H H' hD bt ⟨t, m, h1, h2, h3⟩ => ⟨t, m, h1, h2, h3.tz (Tz.but bt hD fun o v z => by cases z)⟩) e12 (by rw [List.length_reverse, List.length_map]; omega) (fun D i x' H' acc hi' hD s13 hacc Q' q' => ?_) mg_name fun D H13 acc hD s13 hacc hla hr1 => ?_
    · rw [← List.map_reverse, List.getElem?_map] at hi'
      obtain ⟨m, hm, rfl⟩ := Option.map_eq_some_iff.mp hi'
      walk_at "vc"
      refine ⟨rfl, ?_⟩
      walk_at "vc"
      refine y_I (cm_of (by decide)) ?_
      walk_at "vc"
      rename_i t14 H14 f14 s14 tu14
      have el : (1 : Int) * ((ms.map fun m => V.ref m.p).length : Nat) = (n : Nat) := by rw [List.length_map, lenm, Int.one_mul]
      rw [el] at tu14
      exact q' _ _ s14 ⟨_, m, rfl, hm, tu14⟩
    obtain ⟨wt, rfl, hwt⟩ := refs_ex (R := fun i t => ∃ m : Mo, ms.reverse[i]? = some m ∧ TU H13 t [.ref m.p, .int (n : Nat)]) fun i y e => let ⟨t, m, h1, h2, h3⟩ := hr1 i y e; ⟨t, h1, m, h2, h3⟩
    rw [List.length_map, List.length_reverse, List.length_map, lenm] at hla
    have e13w : H13 lw = some (.lst []) := s13 _ _ (s12' _ _ e11w)
    walk_at "vc"
    refine y_extend e13w hacc (by rw [List.length_map, hla]; simp; omega) fun H14 b14 e14 => ?_
    walk_at "vc"
    have s113 : Same H11 H13 := s12'.trans s13
    refine ⟨n, by omega, .inr ⟨wt, ms, 0, rfl, Nat.zero_le _, ?_, _, _, _, _, _, _, _, rfl⟩⟩
    have frl : ∀ m ∈ ms, lw ∉ m.all := fun m hm z => by
      have := fr11 lw (.inr ⟨m, hm, z⟩)
      rw [e10] at this
      cases this
    exact {
      same := Same.but (sH11.trans s113) flw b14
      fw := flw
      ff := flf
      ways := by
        rw [e14, Nat.sub_zero, List.take_of_length_le (by omega)]
        rfl
      wl := hla
      ml := lenm
      wm := fun qi t m ht hm => by
        obtain ⟨m', h1, h2⟩ := hwt qi t ht
        have hq : qi < wt.length := (List.getElem?_eq_some_iff.mp ht).1
        rw [List.getElem?_reverse (by omega), lenm, hm] at h1
        cases h1
        exact h2.tz (Tz.but b14 e13w fun o v z => by cases z)
      pw := pw11
      fr := fun m hm => ⟨fun c hc => sH10.free (fr11 c (.inr ⟨m, hm, hc⟩)), nn11 m hm, frl m hm⟩
      mo := fun j m _ hm => by
        obtain ⟨h1, h2⟩ := al11 j m hm
        rw [srt_id srtd] at h1
        have l := frl m (List.mem_of_getElem? hm)
        exact ⟨(MomAt.same s113 h1).but b14 e13w (fun _ _ z => by cases z) (Mo.own_all l), b14 _ _ (fun z => l (z ▸ m.nm_all)) (s113 _ _ h2)⟩
      fd := ⟨[], b14 _ _ (ne_of (s113 _ _ e11f) e13w fun z => by cases z) (s113 _ _ e11f), rfl, fun a e h => by simp at h⟩ }
  · obtain ⟨sa, fw, ff, ways, wl, ml, wm, pw, fr, mo, ents, ef, le, fe⟩ := ei
    by_cases hin : i < n
    · have hq : n - 1 - i < wt.length := by omega
      obtain ⟨t, ht⟩ : ∃ t, wt[n - 1 - i]? = some t := ⟨_, List.getElem?_eq_getElem hq⟩
      obtain ⟨m, hm⟩ : ∃ m, ms[i]? = some m := ⟨_, List.getElem?_eq_getElem (by omega)⟩
      have hmm := List.mem_of_getElem? hm
      obtain ⟨fm, nnm, lwm⟩ := fr m hmm
      obtain ⟨hM1, hN1⟩ := mo i m (Nat.le_refl _) hm
      have lt : ((wt.take (n - i)).map V.ref).length = n - i := by rw [List.length_map, List.length_take]; omega
      have tr : true = !((wt.take (n - i)).map V.ref).isEmpty := by
        cases h : (wt.take (n - i)).map V.ref with
        | nil => rw [h] at lt; simp at lt; omega
        | cons => rfl
      refine ⟨_, rfl, true, .inl ⟨_, SqL.of ways, tr⟩, ?_⟩
      refine ite_t rfl ⟨fun σ' H' => ∃ c', c' < n - i ∧ W c' σ' H', fun _ _ h => h, ?_⟩
      walk_at "vc"
      have hlast : ((wt.take (n - i)).map V.ref)[((wt.take (n - i)).map V.ref).length - 1]? = some (.ref t) := by
        rw [lt, List.getElem?_map, List.getElem?_take_of_lt (by omega), show n - i - 1 = n - 1 - i by omega, ht]
        rfl
      refine y_pop ways hlast fun H2 b2 e2 => ?_
      have e2 : H2 lw = some (.lst ((wt.take (n - (i + 1))).map V.ref)) := by
        rw [e2, List.dropLast_eq_take, lt, ← List.map_take, List.take_take, show min (n - i - 1) (n - i) = n - (i + 1) by omega]
      have z2 : Fz K H' H2 := Fz.but b2 ways nf_lst
      have tu : TU H2 t [.ref m.p, .int (n : Nat)] := (wm _ _ _ ht (by rw [show n - 1 - (n - 1 - i) = i by omega]; exact hm)).fz z2
      have hM2 := hM1.but b2 ways (fun _ _ z => by cases z) (Mo.own_all lwm)
      have hN2 : NmAt H2 m.nm i := b2 _ _ (fun z => lwm (z ▸ m.nm_all)) hN1
      have sH2 : Same H H2 := Same.but sa flw b2
      have hx2 : RunAt K H2 x n s := hx.same sH2
      walk_at "vc"
      refine y_runM hx2 (fun _ => rfl) ?_
      walk_at "vc"
      refine ⟨x, m, ks, b, [sIf, sPut, sAfter n s], i, n, s, rfl, hx2, hM2, hN2, nnm, by omega, fun k h => by have := hk k h; omega, nd, hin, by omega, hs, .inr ⟨rfl, fun l H3 bm f3 e3 hM3 hN3 => ?_⟩⟩
      have hM3 : MomAt K H3 m (addK ks i) (b || decide (i ∈ ks)) [] := hM3
      have sH3 : Same H H3 := Same.bm sH2 fm bm
      have z3 : Fz K H' H3 := z2.trans (BM.fz T hM2 hN2 bm)
      have e3w : H3 lw = some (.lst ((wt.take (n - (i + 1))).map V.ref)) := bm.lst hM2 hN2 e2
      have e3f : H3 lf = some (NDo P w lf ents) := bm.ext hM2 hN2 (b2 _ _ (ne_of ef ways fun z => by cases z) ef)
      have hx3 : RunAt K H3 x n s := hx.same sH3
      have hp3 : Rp H3 (.ref pa) (gProc n s) := hpv.same sH3
      obtain ⟨dxm, pdm, gm0, _⟩ := id hM3
      walk_at "vc"
      refine ⟨false, .inl ⟨[], SqL.of e3, rfl⟩, ?_⟩
      walk_at "vc"
      have al : (addK ks i).length < 64 := by
        unfold addK
        split
        · omega
        · rw [List.length_append]
          simp
          omega
      have ab : ∀ k ∈ addK ks i, k < n := by
        intro k h
        unfold addK at h
        split at h
        · exact hk k h
        · rcases List.mem_append.mp h with h | h
          · exact hk k h
          · simp at h
            omega
      refine ⟨m, addK ks i, _, [], rfl, hM3, al, fun k h => by have := ab k h; omega, fun v4 H4 s4 r4 => ?_⟩
      walk_at "vc"
      refine y_runM (hx3.same s4) (fun _ => rfl) ?_
      walk_at "vc"
      rename_i v5 hv5
      have alt := eAns_lt (s := s) (ks := ks) (b := b) hin
      refine ⟨_, _, eA, _, m, addK ks i, _, [], eAns n s ks b i, n, s, rfl, hx3.same s4, hv5, hM3.same s4, hN3.same s4, alt, by omega, .loc _, fun H5 s5 => ?_⟩
      have s35 : Same H3 H5 := s4.trans s5
      walk_at "vc"
      refine y_I (by omega : (0 : Int) < (n : Int)) ?_
      have e0 : (eAns n s ks b i : Int) % (n : Int) = (eAns n s ks b i : Int) := by
        rw [← Int.natCast_emod, Nat.mod_eq_of_lt alt]
      rw [e0]
      walk_at "vc"
      rename_i t6 H6 f6 s6 tu6
      have s36 : Same H3 H6 := s35.trans s6
      have e6f : H6 lf = some (NDo P w lf ents) := s36 _ _ e3f
      have key6 : NKey H6 (nk (endD (eKs ks i) (eB ks b i) (eAns n s ks b i))) t6 := ⟨_, Rp.tup tu6 (.cons ((r4.same s5).same s6) (.cons (.int _) .nil)), rfl, dp_end _ _ _⟩
      have z6 : Fz K H' H6 := z3.trans (Fz.same s36)
      refine ⟨lf, ents, rfl, e6f, ?_⟩
      walk_at "vc"
      refine y_mkR' (r := 0) (by decide) (by decide) (by decide) (by decide +kernel) fun v7 H7 s7 h7 => ?_
      have z7 : Fz K H' H7 := z6.trans (Fz.same s7)
      have ok : ∀ {H'' : Hp}, Fz K H' H'' → NDok H'' ents := fun z e he => by
        obtain ⟨a, ha⟩ := List.mem_iff_getElem?.mp he
        exact ((fe a e ha).fz z).key
      have gn : ndGet ents (nk (endD (eKs ks i) (eB ks b i) (eAns n s ks b i))) = none := by
        refine ndGet_none fun e he z => ?_
        obtain ⟨a, ha⟩ := List.mem_iff_getElem?.mp he
        obtain ⟨sv, q1, q2, q3, q4⟩ := fe a e ha
        have hlt : a < ents.length := (List.getElem?_eq_some_iff.mp ha).1
        have := ends_inj (n := n) (s := s) (ks := ks) (b := b) (a := a) (c := i) (by omega) hin (q4.symm.trans z)
        omega
      refine ⟨ents, _, t6, s7 _ _ e6f, ok z7, rfl, key6.tz (Tz.same s7), ?_⟩
      rw [gn]
      walk_at "vc"
      refine y_mkR' (r := mkRat 1 n) (by omega) (by decide) (by omega) (by rw [Int.toNat_natCast]) fun v8 H8 s8 h8 => ?_
      have sm1 := sm_1n n hn n0
      walk_at "vc"
      refine y_rop (h7.same s8) h8 (by decide +kernel) sm1 fun v9 H9 s9 h9 => ?_
      have h9 : RR K H9 v9 (mkRat 1 n) := by
        have h9' : RR K H9 v9 (0 + mkRat 1 n) := h9
        rwa [Rat.zero_add] at h9'
      have s69 : Same H6 H9 := (s7.trans s8).trans s9
      have s39 : Same H3 H9 := s36.trans s69
      have z9 : Fz K H' H9 := z6.trans (Fz.same s69)
      have e9f : H9 lf = some (NDo P w lf ents) := s69 _ _ e6f
      walk_at "vc"
      refine ⟨lf, ents, _, t6, rfl, e9f, ok z9, rfl, key6.tz (Tz.same s69), by omega, fun H10 b10 e10 => ?_⟩
      have z10 : Fz K H9 H10 := Fz.but b10 e9f nf_ext
      refine ⟨n - (i + 1), by omega, .inr ⟨wt, ms, i + 1, rfl, by omega, ?_, _, _, _, _, _, _, _, rfl⟩⟩
      exact {
        same := Same.but (sH3.trans s39) ff b10
        fw := flw
        ff := ff
        ways := b10 _ _ (ne_of (s39 _ _ e3w) e9f fun z => by cases z) (s39 _ _ e3w)
        wl := wl
        ml := ml
        wm := fun q t m h1 h2 => ((wm q t m h1 h2).fz z9).fz z10
        pw := pw
        fr := fr
        mo := fun j m' hj hm' => by
          obtain ⟨k1, k2⟩ := mo j m' (by omega) hm'
          obtain ⟨fm', nnm', lwm'⟩ := fr m' (List.mem_of_getElem? hm')
          have ap : ∀ x ∈ m'.all, x ∉ m.all := fun y hy hy' => (pw_get pw (show i < j by omega) hm hm') y hy' hy
          have k3 := (k1.but b2 ways (fun _ _ z => by cases z) (Mo.own_all lwm')).bm hM2 hN2 ap bm
          have k4 : NmAt H3 m'.nm j := NmAt.bm (b2 _ _ (fun z => lwm' (z ▸ m'.nm_all)) k2 : NmAt H2 m'.nm j) ap bm
          exact ⟨(MomAt.same s39 k3).butx b10 e9f, b10 _ _ (ne_of (s39 _ _ k4) e9f fun z => by cases z) (s39 _ _ k4)⟩
        fd := ⟨ents ++ [(nk (endD (eKs ks i) (eB ks b i) (eAns n s ks b i)), t6, v9)], by
          rw [e10]
          unfold ndPut
          rw [gn]
          rfl, by rw [List.length_append, le]; rfl, fun a e h => by
          by_cases hlt : a < ents.length
          · rw [List.getElem?_append_left hlt] at h
            exact ((fe a e h).fz z9).fz z10
          · rw [List.getElem?_append_right (by omega)] at h
            have e0 : a - ents.length = 0 := by
              cases h' : a - ents.length with
              | zero => rfl
              | succ k =>
                rw [h'] at h
                simp at h
            rw [e0] at h
            have h := Option.some.inj h
            subst h
            have ea : a = i := by omega
            subst ea
            exact ⟨v4, (tu6.same s69).fz z10, (((r4.same s5).same s6).same s69).fz z10, h9.fz z10, rfl⟩⟩ }
    · have ei : i = n := by omega
      subst ei
      have ways0 : H' lw = some (.lst []) := by
        rw [ways, Nat.sub_self]
        rfl
      refine ⟨_, rfl, false, .inl ⟨_, SqL.of ways0, rfl⟩, ?_⟩
      refine ite_f rfl ?_
      walk_at "vc"
      refine y_lcN (fun D a v H' => ∃ (t : Addr) (sv r : V), v = .ref t ∧ TU H' t [sv, .int (eAns i s ks b a : Nat), r] ∧ Rp H' sv (stD (eKs ks a) (eB ks b a)) ∧ RR K H' r (mkRat 1 i)) (fun D ys a v H H' hD bt ⟨t, sv, r, h1, h2, h3, h4⟩ => have z := Fz.but bt hD nf_lst; ⟨t, sv, r, h1, h2.fz z, h3.fz z, h4.fz z⟩) ef (by omega) (fun D a k bb v T' H2 acc hkv hD bd hacc tT Q' q' => ?_) (mg_tup (mg_cons mg_name (mg_cons mg_name mg_nil))) fun D H2 acc hD bd hacc hla hr1 => ?_
      · obtain ⟨sv, q1, q2, q3, q4⟩ := (fe a _ hkv).fz (Fz.but bd ef nf_ext)
        walk_at "vc"
        refine ⟨rfl, ?_⟩
        walk_at "vc"
        rename_i t9 H9 f9 s9 tu9
        exact q' _ _ s9 ⟨t9, sv, v, rfl, tu9, q2.same s9, q3.same s9⟩
      obtain ⟨ts, rfl, hts⟩ := refs_ex (R := fun a t => ∃ sv r, TU H2 t [sv, .int (eAns i s ks b a : Nat), r] ∧ Rp H2 sv (stD (eKs ks a) (eB ks b a)) ∧ RR K H2 r (mkRat 1 i)) fun a y e => let ⟨t, sv, r, h1, h2⟩ := hr1 a y e; ⟨t, h1, sv, r, h2⟩
      exact q D H2 (Same.but sa ff bd) ⟨ts, hacc, by rw [List.length_map] at hla; omega, hts⟩
theorem c_Runner_ends (T : Tx K mg) : Cal P w K mg base 6 d_Runner_ends ["self", "state", "name", "given"] [] (sp_Runner_ends K) :=
  Cal.of T.d_Runner_ends rfl rfl (fun _ _ _ _ _ _ us hl => match us, hl with | [_, _, _, _], _ => rfl) fun fd F => ok_Runner_ends T F
end
end Tn
set_option Elab.async false
set_option linter.all false
set_option maxRecDepth 100000
set_option maxHeartbeats 4000000
set_option pp.maxSteps 400
namespace Tn
open PySem PySem.Spec L2
/-! ### slices of tuples -/
def rSlU : V → Option Int → Option Int → Hp → VK → Prop := fun x lo hi H Q => ∃ a xs, x = .ref a ∧ TU H a xs ∧ ¬ (HT.sIx xs.length 0 lo = 0 ∧ HT.sIx xs.length xs.length hi = xs.length) ∧ ∀ p H', H p = none → Same H H' → TU H' p (cutV xs lo hi) → Q (.ref p) H'
def cutD (ds : List PyData) (lo hi : Option Int) : List PyData := (ds.drop (HT.sIx ds.length 0 lo)).take (HT.sIx ds.length ds.length hi - HT.sIx ds.length 0 lo)
theorem sl_tupU {X : Cx} : SlR X rSlU := by
  intro pins s σ H x v vl vu lo hi sl Q I rx hs pl pu h
  obtain ⟨a, xs, rfl, hx, hw, q⟩ := h
  cases rx
  obtain ⟨its, r, ht, hz⟩ := I.tuple (hx.sq (K := X.K))
  have hlen : its.toArray.size = xs.length := by rw [List.size_toArray]; exact r.length.symm
  refine ⟨"tuple", _, PyProof.Rows.slot_tuple_getitem.lookup, ht.typeIs, ?_⟩
  refine HT.getItem_tuple_cut ht hs pl pu (by rw [hlen]; exact hw) ?_ (by rw [hlen]; exact hz)
  rw [hlen]
  have hf : H s.heap.objs.size = none := I.hok.fresh (Nat.le_refl _)
  refine ⟨.ref s.heap.objs.size, _, I.laid (t' := s.toks) (o := .frz _ (.tup (cutV xs lo hi))) (fun b ob q => Heap.get?_push_of_some _ q) (Nat.le_refl _) ⟨Heap.get?_push_size _ rfl, ?_⟩, rfl, q _ _ hf (Same.new hf) ⟨_, ?_, upd_same⟩⟩
  · exact ⟨Nat.le_trans (cutV_length xs lo hi) hz, _, (r.drop (HT.sIx xs.length 0 lo)).take (HT.sIx xs.length xs.length hi - HT.sIx xs.length 0 lo), PyProof.Rows.IsTup.new _ _⟩
  · rfl
section
variable {K : PySem.W.Frag} {σ : L2.St} {H : Hp} {Q : VK} {te : TE} {tl th : TO}
theorem RpL.drop : ∀ {xs : List V} {ds : List PyData} (i : Nat), RpL H xs ds → RpL H (xs.drop i) (ds.drop i)
  | _, _, 0, h => h
  | _, _, _ + 1, .nil => .nil
  | _, _, i + 1, .cons _ t => RpL.drop i t
theorem RpL.take : ∀ {xs : List V} {ds : List PyData} (i : Nat), RpL H xs ds → RpL H (xs.take i) (ds.take i)
  | _, _, 0, _ => .nil
  | _, _, _ + 1, .nil => .nil
  | _, _, i + 1, .cons h t => .cons h (RpL.take i t)
theorem x_sl {r : V → Option Int → Option Int → Hp → VK → Prop} (q : te σ H fun x H1 => tl σ H1 fun l H2 => th σ H2 fun u H3 => r x l u H3 Q) : tSl r te tl th σ H Q := q
theorem x_nopart {Q : Option Int → Hp → Prop} (q : Q none H) : tNoPart σ H Q := q
theorem x_part {Q : Option Int → Hp → Prop} (q : te σ H fun x H1 => ∃ i, x = .int i ∧ Q (some i) H1) : tPart te σ H Q := q
theorem x_partI {i : Int} {Q : Int → Prop} (q : Q i) : ∃ j, V.int i = .int j ∧ Q j := ⟨i, rfl, q⟩
theorem y_slR {x : V} {ds : List PyData} {lo hi : Option Int} (k : Nat) (h : Rp H x (.tuple ds)) (hk : ds.length = k) (w : ¬ (HT.sIx k 0 lo = 0 ∧ HT.sIx k k hi = k)) (q : ∀ v H', Same H H' → Rp H' v (.tuple (cutD ds lo hi)) → Q v H') : rSlU x lo hi H Q := by
  obtain ⟨a, xs, rfl, hp, hx⟩ := h.t_
  have hl := hx.len
  refine ⟨a, xs, rfl, hp, by rw [hl, hk]; exact w, fun p H' f s t => q _ _ s (Rp.tup t ?_)⟩
  unfold cutV cutD
  rw [hl]
  exact ((hx.same s).drop _).take _
end
section
variable {K : PySem.W.Frag} {H : Hp} {Q : VK}
theorem y_mkRun {g : V} {n s : Nat} (h : GM K H g n s) (q : ∀ v H', Same H H' → RunAt K H' v n s → Q v H') : rMake (He.ga K "Runner") (sp_Runner_init K) [g] H Q := by
  intro x dx hx hdx ne
  have sx : Same H (upd (upd H dx (.own x)) x (.ins (He.ga K "Runner") dx [])) := fun c o e => by
    rw [upd_ne (ne_of_none e hx), upd_ne (ne_of_none e hdx)]
    exact e
  refine ⟨x, dx, g, n, s, rfl, upd_same, h.same sx, fun H' b1 h1 => ⟨rfl, ?_⟩⟩
  have s1 : Same H H' := Same.but sx hx b1
  exact q _ _ s1 ⟨x, dx, g, rfl, h1, h.same s1⟩
end
/-! ### the look -/
abbrev faceD (n : Nat) : PyData := .tuple [.tuple [.str "p", .int 1, .int n]]
theorem shaped_face (n : Nat) : SeqAt.shaped (faceD n) = true := by simp [SeqAt.shaped, PyData.canLay0, PyData.canLayAll0, PyData.depth, PyData.depthAll]; decide +kernel
def LookAt (K : PySem.W.Frag) (H : Hp) (p al : Addr) (n s0 s1 : Nat) (left : Int) : Prop := ∃ dx rt r0 r1 t, H p = some (.ins (He.ga K "Look") dx [("runners", .ref rt), ("asks", .ref al), ("left", .int left)]) ∧ TU H rt [r0, r1] ∧ RunAt K H r0 n s0 ∧ RunAt K H r1 n s1 ∧ H al = some (.lst [.ref t]) ∧ TU H t [.str "p", .int 0]
theorem LookAt.same {K : PySem.W.Frag} {H H' : Hp} {p al : Addr} {n s0 s1 : Nat} {left : Int} (s : Same H H') (h : LookAt K H p al n s0 s1 left) : LookAt K H' p al n s0 s1 left := by
  obtain ⟨dx, rt, r0, r1, t, h1, h2, h3, h4, h5, h6⟩ := h
  exact ⟨dx, rt, r0, r1, t, s _ _ h1, h2.same s, h3.same s, h4.same s, s _ _ h5, h6.same s⟩
local macro_rules | `(tactic| walk_at "tz") => `(tactic| first
  | ((refine' Tz.same ?s); (case s => with_reducible assumption))
  | ((refine' Tz.but ?b ?h ?n); (case b => with_reducible assumption); (case h => walk_at "look"); (case n => (intro o v z; cases z))))
local macro_rules | `(tactic| walk_at "fz") => `(tactic| first
  | ((refine' Fz.same ?s); (case s => with_reducible assumption))
  | ((refine' Fz.but ?b ?h ?n); (case b => with_reducible assumption); (case h => walk_at "look"); (case n => first | exact nf_lst | exact nf_dK | exact nf_ext | assumption)))
local macro_rules | `(tactic| walk_at "look") => `(tactic| first
  | with_reducible assumption
  | ((with_reducible refine' Same.app ?s ?m); (case s => with_reducible assumption); (case m => walk_at "look"))
  | ((with_reducible refine' RR.fz ?z ?m); (case z => walk_at "fz"); (case m => walk_at "look"))
  | ((with_reducible refine' Rp.tz ?z ?m); (case z => walk_at "tz"); (case m => walk_at "look"))
  | ((with_reducible refine' TU.tz ?z ?m); (case z => walk_at "tz"); (case m => walk_at "look"))
  | ((with_reducible refine' RpL.tz ?z ?m); (case z => walk_at "tz"); (case m => walk_at "look"))
  | ((with_reducible refine' GM.fz ?z ?m); (case z => walk_at "fz"); (case m => walk_at "look"))
  | ((with_reducible refine' But.app' ?b ?n ?m); (case b => with_reducible assumption); (case n => first | assumption | (refine Ne.symm ?_; assumption)); (case m => walk_at "look"))
  | ((with_reducible refine' But.app ?b ?l ?d ?m); (case b => with_reducible assumption); (case m => walk_at "look"); (case l => walk_at "look"); (case d => (intro z; cases z))))
local macro_rules | `(tactic| walk_at "rp") => `(tactic| first
  | (with_reducible assumption)
  | walk_at "look"
  | exact Rp.bl _ | exact Rp.int _ | exact Rp.str _ | exact Rp.non
  | ((refine' Rp.tup ?h ?l); (case h => walk_at "look"); (case l => walk_at "rpl")))
local macro_rules | `(tactic| walk_at "rpl") => `(tactic| first
  | exact RpL.nil
  | ((refine' RpL.cons ?h ?l); (case h => walk_at "rp"); (case l => walk_at "rpl")))
local macro_rules | `(tactic| walk_at "vc") => `(tactic| repeat (first
  | with_reducible refine' x_seq ?_
  | with_reducible refine' x_ifS ?_
  | with_reducible refine' x_asg ?_
  | with_reducible refine' x_drop ?_
  | with_reducible refine' x_ret ?_
  | with_reducible refine' x_name ?_
  | with_reducible refine' x_c ?_
  | ((with_reducible refine' x_var ?h ?_); (case h => rfl))
  | with_reducible refine' x_op ?_
  | with_reducible refine' x_un ?_
  | with_reducible refine' x_tup ?_
  | with_reducible refine' x_lst ?_
  | ((with_reducible refine' x_gtup ?h ?l ?_); (case h => walk_at "look"); (case l => rfl))
  | ((with_reducible refine' x_gtup' ?h ?l ?_); (case h => walk_at "look"); (case l => rfl))
  | with_reducible refine' x_gcons ?_
  | with_reducible refine' x_gnil ?_
  | with_reducible refine' x_nil ?_
  | with_reducible refine' x_cons ?_
  | with_reducible refine' x_call ?_
  | with_reducible refine' x_meth ?_
  | ((with_reducible refine' x_methv ?h ?l ?_); (case h => walk_at "look"); (case l => first | rfl | decide +kernel))
  | with_reducible refine' x_make ?_
  | with_reducible refine' x_cb ?_
  | with_reducible refine' x_test ?_
  | with_reducible refine' x_B ?_
  | with_reducible refine' x_and ?_
  | with_reducible refine' x_or ?_
  | with_reducible refine' x_not ?_
  | with_reducible refine' x_if ?_
  | with_reducible refine' x_andV ?_
  | with_reducible refine' x_orV ?_
  | with_reducible refine' x_notV ?_
  | with_reducible refine' x_next ?_
  | with_reducible refine' x_gfldc ?_
  | with_reducible refine' x_bmF ?_
  | with_reducible refine' x_bmF0 ?_
  | ((with_reducible refine' y_tyL ?h ?_); (case h => walk_at "look"))
  | ((with_reducible refine' y_tyD ?h ?_); (case h => walk_at "look"))
  | ((with_reducible refine' y_lenL ?h ?_); (case h => walk_at "look"))
  | ((with_reducible refine' y_lenR ?h ?_); (case h => walk_at "look"))
  | with_reducible refine' x_forT ?_
  | with_reducible refine' x_forL ?_
  | with_reducible refine' x_lcT ?_
  | with_reducible refine' x_lcL ?_
  | ((with_reducible refine' y_tupleL ?h ?_); (case h => walk_at "look"); intro _ _ _ _ _)
  | ((with_reducible refine' y_tupleR ?h ?_); (case h => walk_at "look"))
  | ((with_reducible refine' y_tupleT ?h ?_); (case h => walk_at "look"))
  | with_reducible refine' x_cont ?_
  | with_reducible refine' x_dget ?_
  | with_reducible refine' x_din ?_
  | with_reducible refine' x_dput ?_
  | ((with_reducible refine' x_dnewN ?_); intro _ _ _ _ _)
  | with_reducible refine' x_nget2 ?_
  | with_reducible refine' x_nput ?_
  | with_reducible refine' x_lcN ?_
  | with_reducible refine' x_lcKF ?_
  | with_reducible refine' x_itemsN ?_
  | ((with_reducible refine' x_dnewK ?_); intro _ _ _ _ _)
  | with_reducible refine' x_forRev ?_
  | with_reducible refine' x_sl ?_
  | with_reducible refine' x_nopart ?_
  | with_reducible refine' x_part ?_
  | with_reducible refine' x_partI ?_
  | with_reducible refine' x_revL ?_
  | with_reducible refine' x_sfldc ?_
  | with_reducible refine' x_bl ?_
  | ((with_reducible refine' x_fldc ?h ?l ?_); (case h => walk_at "look"); (case l => first | rfl | decide +kernel))
  | ((with_reducible refine' x_setc ?h ?l ?_); (case h => walk_at "look"); (case l => exact Nat.le_of_ble_eq_true rfl); intro _ _ _)
  | ((with_reducible refine' y_num ?h ?_); (case h => walk_at "look"))
  | ((with_reducible refine' y_den ?h ?_); (case h => walk_at "look"))
  | with_reducible refine' y_I0 ?_
  | ((with_reducible refine' y_ixS ?h ?e ?a ?_); (case h => walk_at "look"); (case e => rfl); (case a => rfl))
  | ((with_reducible refine' y_ixI ?h ?e ?a ?_); (case h => walk_at "look"); (case e => rfl); (case a => rfl))
  | ((with_reducible refine' y_ixB ?h ?e ?a ?_); (case h => walk_at "look"); (case e => rfl); (case a => rfl))
  | ((with_reducible refine' y_ixR ?h ?e ?a ?_); (case h => walk_at "look"); (case e => rfl); (case a => rfl); intro _ _)
  | ((with_reducible refine' y_ixT ?h ?a ?_); (case h => walk_at "look"); (case a => rfl))
  | ((with_reducible refine' y_eq ?s ?_); (case s => rfl))
  | ((with_reducible refine' y_ne ?s ?_); (case s => rfl))
  | ((with_reducible refine' x_rtup ?l ?_); (case l => exact Nat.le_of_ble_eq_true rfl); intro _ _ _ _ _)
  | ((with_reducible refine' x_rlst ?l ?_); (case l => exact Nat.le_of_ble_eq_true rfl); intro _ _ _ _ _)
  | ((with_reducible refine' ite_t ?h ?_); (case h => first | with_reducible rfl | assumption | exact decide_eq_true (by omega) | decide +kernel | rfl))
  | ((with_reducible refine' ite_f ?h ?_); (case h => first | with_reducible rfl | assumption | exact decide_eq_false (by omega) | decide +kernel | rfl))))
def sp_face (K : PySem.W.Frag) : Sp := fun vs H Q _ => ∃ (g : V) (n s : Nat), vs = [g] ∧ GM K H g n s ∧ ∀ v H', Same H H' → Rp H' v (faceD n) → Q v H'
def sp_Look_init (K : PySem.W.Frag) : Sp := fun vs H Q _ => ∃ (p dx : Addr) (g g' : V) (n s0 s1 : Nat), vs = [.ref p, g, g'] ∧ H p = some (.ins (He.ga K "Look") dx []) ∧ GM K H g n s0 ∧ GM K H g' n s1 ∧ ∀ H' al, But p H H' → LookAt K H' p al n s0 s1 3000 → Q .non H'
section
variable {P : Program} {w : World} {K : PySem.W.Frag} {mg : Str → Option Value} {base : Heap}
theorem sc_face : FnScope ["game", "proc"] ["game"] (defScope s_face) := ⟨rfl, rfl, rfl, by decide +kernel, rfl, by decide +kernel, by decide +kernel⟩
theorem sc_Look_init : FnScope ["self", "game", "other", "name", "size", "_", "given"] ["self", "game", "other"] (defScope s_Look_init) := ⟨rfl, rfl, rfl, by decide +kernel, rfl, by decide +kernel, by decide +kernel⟩
theorem ok_face (T : Tx K mg) {fd : FuncData} (F : FnX K d_face fd) : FnOk P w K mg base CX0 1 (He.fAd K d_face.at_) fd ["game"] (sp_face K) := by
  refine F.ok sc_face (fun vs H Q E h => ?_) (fun cdv A outer s0 H vs Q E hr h => ?_)
  · obtain ⟨g, n, s, rfl, _⟩ := h
    rfl
  obtain ⟨g, n, s, rfl, hg, q⟩ := h
  refine ⟨_, PSs.nox (pss_one (ps_ret (pe_callTy call_tupleF (by rfl) T.f_tuple (by decide +kernel) (pa_cons (pe_lc (own := [("proc", 1)]) (g := gName 1) (tt := tYes) (by rfl) sc_face.nd (pi_tup (pe_fldc T.cl_Game T.n_Game_procs (pv 0))) (blkOk_by (own := [("proc", 1)]) (N := ["game", "proc"]) (sc := defScope s_face) (by decide +kernel)) (fun _ _ _ _ _ => (pg_name (i := 1) sc_face.nd rfl (Or.inl rfl))) (fun _ _ _ _ _ => pts_nil) (fun _ _ _ _ _ => (pe_slice sl_tupU (pv 1) po_none (po_some pe_int)))) pa_nil)))), ?_⟩
  walk_at "vc"
  refine y_gproc hg fun u h1 => ?_
  obtain ⟨a1, x1, rfl, h1a, h1b⟩ := h1.t_
  refine y_lcT (fun D i v H => Rp H v (.tuple [.str "p", .int 1, .int n])) (fun D ys i v H H' hD b r => r.tz (Tz.but b hD (fun o v z => by cases z))) h1a (by rw [h1b.len]; exact Nat.le_of_ble_eq_true rfl) (fun D i x H' acc hi hD s1 hacc Q' q' => ?_) mg_name fun D H1 acc hD s1 hacc hl hr1 => ?_
  · obtain ⟨d, hd, hr'⟩ := h1b.get' hi
    have hd : d = gProc n s := by
      match i, hd with
      | 0, hd => exact (Option.some.inj hd).symm
      | i + 1, hd => cases hd
    subst hd
    have hr'' := hr'.same s1
    walk_at "vc"
    refine ⟨rfl, ?_⟩
    walk_at "vc"
    exact y_slR (lo := none) (hi := some 3) 6 hr'' rfl (by decide +kernel) fun v H2 s2 h2 => q' _ _ s2 h2
  have hl : acc.length = 1 := hl.trans h1b.len
  obtain ⟨y, rfl⟩ := one_of hl
  have hy := hr1 0 y rfl
  walk_at "vc"
  rename_i p2 H2 f2 s2 t2
  exact q _ _ (s1.trans s2) (Rp.tup t2 (.cons (hy.same s2) .nil))
theorem c_face (T : Tx K mg) : Cal P w K mg base 1 d_face ["game"] [] (sp_face K) :=
  Cal.of T.d_face rfl rfl (fun _ _ _ _ _ _ us hl => match us, hl with | [_], _ => rfl) fun fd F => ok_face T F
theorem ok_Look_init (T : Tx K mg) {fd : FuncData} (F : FnX K d_Look_init fd) : FnOk P w K mg base CX0 3 (He.fAd K d_Look_init.at_) fd ["self", "game", "other"] (sp_Look_init K) := by
  refine F.ok sc_Look_init (fun vs H Q E h => ?_) (fun cdv A outer s0 H vs Q E hr h => ?_)
  · obtain ⟨p, dx, g, g', n, s0, s1, rfl, _⟩ := h
    rfl
  obtain ⟨p, dx, g, g', n, s0, s1, rfl, hp, hg, hg', q⟩ := h
  refine ⟨_, PSs.nox (pss_cons (ps_if (pt_cmpR (op_neD hr.units) (pe_cal (c_face T) (hr.mono (by omega)) rfl T.g_face (pa_cons (pv 1) pa_nil)) (pe_cal (c_face T) (hr.mono (by omega)) rfl T.g_face (pa_cons (pv 2) pa_nil)) (nomark _)) pss_never pss_nil)
      (pss_cons (ps_fldc T.cl_Look T.n_Look_runners (pv 0) (pe_tupF (pa_cons (pe_mkc (c_Runner_init T) T.mk_Runner (hr.mono (by omega)) rfl T.g_Runner (pa_cons (pv 1) pa_nil)) (pa_cons (pe_mkc (c_Runner_init T) T.mk_Runner (hr.mono (by omega)) rfl T.g_Runner (pa_cons (pv 2) pa_nil)) pa_nil))))
      (pss_cons (ps_fldc T.cl_Look T.n_Look_asks (pv 0) (pe_lst pa_nil))
      (pss_cons (ps_for PassesOwn.never rfl (pi_tup (pe_cal (c_face T) (hr.mono (by omega)) rfl T.g_face (pa_cons (pv 1) pa_nil))) (pg_tup rfl (pgs_cons (pg_name (i := 3) sc_Look_init.nd rfl (Or.inr rfl)) (pgs_cons (pg_name (i := 4) sc_Look_init.nd rfl (Or.inl rfl)) (pgs_cons (pg_name (i := 5) sc_Look_init.nd rfl (Or.inl rfl)) pgs_nil)))) (pss_one (ps_expr (pe_bmF PySem.F.plainAttrs_list PySem.F.slot_list_extend PySem.F.type_list_extend mt_extend (pe_fldc T.cl_Look T.n_Look_asks (pv 0)) (pa_cons (pe_lc (own := [("given", 6)]) (g := gName 6) (tt := tYes) (by rfl) sc_Look_init.nd (pi_range1 rfl T.f_range (pa_cons (pv 4) pa_nil)) (blkOk_by (own := [("given", 6)]) (N := ["self", "game", "other", "name", "size", "_", "given"]) (sc := defScope s_Look_init) (by decide +kernel)) (fun _ _ _ _ _ => (pg_name (i := 6) sc_Look_init.nd rfl (Or.inl rfl))) (fun _ _ _ _ _ => pts_nil) (fun _ _ _ _ _ => (pe_tupF (pa_cons (pv 3) (pa_cons (pv 6) pa_nil))))) pa_nil)))))
      (pss_one (ps_fldc T.cl_Look T.n_Look_left (pv 0) (pe_gi (by rfl) T.i_MOST_LOOKS))))))), ?_⟩
  walk_at "vc"
  refine ⟨g, n, s0, rfl, hg, fun v1 H1 s1' h1 => ?_⟩
  walk_at "vc"
  refine ⟨g', n, s1, rfl, hg'.same s1', fun v2 H2 s2' h2 => ?_⟩
  have s02 : Same H H2 := s1'.trans s2'
  walk_at "vc"
  refine ⟨_, _, (h1.same s2').dp, h2.dp, shaped_face n, shaped_face n, ?_⟩
  rw [SeqAt.eqv_refl _ (Bool.and_eq_true_iff.mp (shaped_face n)).1]
  walk_at "vc"
  refine y_mkRun (hg.same s02) fun r0 H3 s3 h3 => ?_
  walk_at "vc"
  refine y_mkRun ((hg'.same s02).same s3) fun r1 H4 s4 h4 => ?_
  have s04 : Same H H4 := (s02.trans s3).trans s4
  walk_at "vc"
  rename_i rt H5 f5 s5 t5 H6 b6 e6 al H7 f7 s7 e7 H8 b8 e8
  have s05 : Same H H5 := s04.trans s5
  have h5p := s05 _ _ hp
  have z58 : Fz K H5 H8 := (Fz.but b6 h5p T.nf_Look).trans ((Fz.same s7).trans (Fz.but b8 (s7 _ _ e6) T.nf_Look))
  have b08 : But p H H8 := ((Same.buts s05 b6).same s7).trans b8
  have nal : al ≠ p := fun z => by rw [z, e6] at f7; cases f7
  have e8a : H8 al = some (.lst []) := b8 _ _ nal e7
  have fal : H al = none := s05.free (b6.free e6 f7)
  refine ⟨g, n, s0, rfl, ((hg.same s04).same s5).fz z58, fun v9 H9 s9 h9 => ?_⟩
  have e9 := s9 _ _ e8
  have e9a := s9 _ _ e8a
  refine y_forR h9 (fun i σ' H' => (i = 0 ∧ H' = H9 ∧ σ' = [some (.ref p), some g, some g', none, none, none, none]) ∨ (i = 1 ∧ But al H9 H' ∧ (∃ t, H' al = some (.lst [.ref t]) ∧ TU H' t [.str "p", .int 0]) ∧ ∃ z3 z4 z5 z6, σ' = [some (.ref p), some g, some g', z3, z4, z5, z6])) (.inl ⟨rfl, rfl, rfl⟩) (fun i σ' H' z => ?_) ?_ ?_
  · rcases z with ⟨_, rfl, _⟩ | ⟨_, b, _⟩
    · exact Fz.refl
    · exact Fz.but b e9a nf_lst
  · rintro i d v σ' H' hi hd (⟨rfl, rfl, rfl⟩ | ⟨rfl, _⟩)
    · cases hi
      refine x_gtupR hd rfl fun xs hxs => ?_
      cases hxs with
      | @cons v1 _ _ _ r1 hxs =>
      cases hxs with
      | @cons v2 _ _ _ r2 hxs =>
      cases hxs with
      | @cons v3 _ _ _ r3 hxs =>
      cases hxs
      cases r1.s_
      cases r2.i_
      cases r3.i_
      walk_at "vc"
      refine y_lcI (n := 1) (fun D i v H' => ∃ t, v = .ref t ∧ TU H' t [.str "p", .int (i : Nat)]) (fun D ys i v H H' hD b ⟨t, h1, h2⟩ => ⟨t, h1, h2.tz (Tz.but b hD fun o v z => by cases z)⟩) (by decide) (fun Q q => ?_) (fun D i H'' acc hi hD s1 hacc Q' q' => ?_) mg_name fun D H10 acc hD s10 hacc hl hr1 => ?_
      · walk_at "vc"
        exact q
      · walk_at "vc"
        refine ⟨rfl, ?_⟩
        walk_at "vc"
        exact q' _ _ (by assumption) ⟨_, rfl, by assumption⟩
      obtain ⟨y, rfl⟩ := one_of hl
      obtain ⟨t, rfl, ht⟩ := hr1 0 y rfl
      walk_at "vc"
      refine y_extend (s10 _ _ e9a) hacc (Nat.le_of_ble_eq_true rfl) fun H11 b11 e11 => ?_
      refine .inr ⟨rfl, Same.buts s10 b11, ⟨t, e11, ht.tz (Tz.but b11 (s10 _ _ e9a) fun o v z => by cases z)⟩, _, _, _, _, rfl⟩
    · cases hi
  · rintro σ' H' (⟨h0, _⟩ | ⟨_, b, ⟨t, h1, h2⟩, z3, z4, z5, z6, rfl⟩)
    · cases h0
    have ep : H' p = _ := b _ _ nal.symm e9
    walk_at "vc"
    rename_i H12 b12 e12
    have b09 : But p H H9 := b08.same s9
    refine q H12 al ?_ ?_
    · intro c o hc e
      exact b12 c o hc (b c o (ne_of_none e fal) (b09 c o hc e))
    · have z5 : Fz K H5 H12 := (z58.trans (Fz.same s9)).trans ((Fz.but b e9a nf_lst).trans (Fz.but b12 ep T.nf_Look))
      exact ⟨dx, rt, r0, r1, t, e12, t5.fz z5, ((h3.same s4).same s5).fz z5, (h4.same s5).fz z5, b12 _ _ nal h1, h2.tz (Tz.but b12 ep fun o v z => by cases z)⟩
theorem c_Look_init (T : Tx K mg) : Cal P w K mg base 3 d_Look_init ["self", "game", "other"] [] (sp_Look_init K) :=
  Cal.of T.d_Look_init rfl rfl (fun _ _ _ _ _ _ us hl => match us, hl with | [_, _, _], _ => rfl) fun fd F => ok_Look_init T F
end
end Tn
set_option Elab.async false
set_option linter.all false
set_option maxRecDepth 100000
set_option maxHeartbeats 4000000
set_option pp.maxSteps 400
namespace Tn
open PySem PySem.Spec L2
/-! ### the split, in plain Lean -/
abbrev Ste := List Nat × Bool
abbrev WL := List (Ste × Nat)
abbrev FM := List (Nat × WL)
def rget (row : WL) (t : Ste) : Option Nat := (row.find? fun e => decide (e.1 = t)).map (·.2)
def rput (row : WL) (t : Ste) (c : Nat) : WL := if (rget row t).isSome = true then row.map (fun e => if e.1 = t then (e.1, c) else e) else row ++ [(t, c)]
def radd (row : WL) (t : Ste) (c : Nat) : WL := rput row t ((rget row t).getD 0 + c)
def fget (f : FM) (a : Nat) : Option WL := (f.find? fun e => decide (e.1 = a)).map (·.2)
def fput (f : FM) (a : Nat) (r : WL) : FM := if (fget f a).isSome = true then f.map (fun e => if e.1 = a then (e.1, r) else e) else f ++ [(a, r)]
def fadd (f : FM) (a : Nat) (t : Ste) (c : Nat) : FM := fput f a (radd ((fget f a).getD []) t c)
def stepM (n s : Nat) (e : Ste × Nat) (f : FM) (a : Nat) : FM := fadd f (eAns n s e.1.1 e.1.2 a) (eKs e.1.1 a, eB e.1.1 e.1.2 a) (e.2 / n)
def rowM (n s : Nat) (f : FM) (e : Ste × Nat) : FM := (List.range n).foldl (stepM n s e) f
def splitM (n s : Nat) (ws : WL) : FM := ws.foldl (rowM n s) []
/-- states and weights that the split takes -/
def okW (n : Nat) (e : Ste × Nat) : Prop := e.1.1.Pairwise (· ≤ ·) ∧ e.1.1.Nodup ∧ e.1.1.length < 60 ∧ (∀ k ∈ e.1.1, k < n) ∧ n ∣ e.2 ∧ e.2 < 2 ^ 20
instance {n : Nat} {e : Ste × Nat} : Decidable (okW n e) := by unfold okW; infer_instance
theorem fput_keys {f : FM} {a : Nat} {r : WL} (h : (f.map (·.1)).Nodup) : ((fput f a r).map (·.1)).Nodup := by
  unfold fput
  split
  · have e : (f.map fun e => if e.1 = a then (e.1, r) else e).map (·.1) = f.map (·.1) := by
      rw [List.map_map]
      refine List.map_congr_left fun e _ => ?_
      simp only [Function.comp]
      split <;> rfl
    rw [e]
    exact h
  · rename_i hn
    rw [List.map_append, List.nodup_append]
    refine ⟨h, by simp, fun x hx y hy z => hn ?_⟩
    simp at hy
    subst hy
    subst z
    obtain ⟨e, he, rfl⟩ := List.mem_map.mp hx
    unfold fget
    rw [Option.isSome_map]
    exact List.find?_isSome.mpr ⟨e, he, by simp⟩
theorem foldl_inv {α β : Type} (I : β → Prop) (g : β → α → β) (hg : ∀ b a, I b → I (g b a)) : ∀ (l : List α) (b : β), I b → I (l.foldl g b)
  | [], _, h => h
  | a :: l, b, h => foldl_inv I g hg l _ (hg b a h)
theorem split_keys (n s : Nat) (ws : WL) : ((splitM n s ws).map (·.1)).Nodup :=
  foldl_inv (fun f : FM => (f.map (·.1)).Nodup) _ (fun f e h => foldl_inv (fun f : FM => (f.map (·.1)).Nodup) _ (fun f a h => fput_keys h) _ _ h) _ _ (by simp)
/-! ### ratios of one denominator -/
theorem mk_add (a b : Int) {N : Nat} (h : N ≠ 0) : mkRat a N + mkRat b N = mkRat (a + b) N := by
  rw [Rat.mkRat_add_mkRat _ _ h h, ← Int.add_mul, ← Rat.mkRat_mul_right (n := a + b) (d := N) h]
theorem mk_neg (a : Int) {N : Nat} : - mkRat a N = mkRat (-a) N := Rat.neg_mkRat a N
theorem mk_sub (a b : Int) {N : Nat} (h : N ≠ 0) : mkRat a N - mkRat b N = mkRat (a - b) N := by
  rw [Rat.sub_eq_add_neg, mk_neg, mk_add _ _ h, Int.sub_eq_add_neg]
theorem mk_div {c n N : Nat} (h : N ≠ 0) (hn : n ≠ 0) (d : n ∣ c) : mkRat (c : Int) N * mkRat 1 n = mkRat ((c / n : Nat) : Int) N := by
  obtain ⟨k, rfl⟩ := d
  rw [Rat.mkRat_mul_mkRat, Nat.mul_div_cancel_left _ (by omega), Int.mul_one]
  have : ((n * k : Nat) : Int) = (k : Int) * (n : Int) := by rw [Int.natCast_mul, Int.mul_comm]
  rw [this]
  exact Rat.mkRat_mul_right hn
theorem mk_lt {a b : Int} {N : Nat} (h : N ≠ 0) : (mkRat a N < mkRat b N) ↔ a < b := by
  have hN : (0 : Rat) < (N : Rat) := by
    have : ((0 : Nat) : Rat) < (N : Rat) := Rat.natCast_lt_natCast.mpr (by omega)
    simpa using this
  rw [Rat.mkRat_eq_div, Rat.mkRat_eq_div, Rat.div_lt_iff hN, Rat.div_mul_cancel (Rat.ne_of_lt hN).symm]
  exact Rat.intCast_lt_intCast
theorem mk_zero {N : Nat} : mkRat 0 N = 0 := Rat.zero_mkRat N
theorem sm_mk {a : Int} {N : Nat} (h : N ≠ 0) (ha : a.natAbs < 2 ^ 60) (hN : N < 2 ^ 60) : Sm (mkRat a N) := by
  constructor
  · rw [Rat.num_mkRat, if_neg h]
    refine Nat.lt_of_le_of_lt ?_ ha
    exact Int.natAbs_ediv_le_natAbs _ _
  · rw [Rat.den_mkRat, if_neg h]
    exact Nat.lt_of_le_of_lt (Nat.div_le_self _ _) hN
end Tn
set_option Elab.async false
set_option linter.all false
set_option maxRecDepth 100000
set_option maxHeartbeats 4000000
set_option pp.maxSteps 400
namespace Tn
open PySem PySem.Spec L2
/-! ### weights, rows, what is found, on the heap -/
section
variable {P : Program} {w : World} {K : PySem.W.Frag} {H H' H0 : Hp} {N n : Nat}
def WE (K : PySem.W.Frag) (H : Hp) (N : Nat) (t : Addr) (e : Ste × Nat) : Prop := ∃ v r, TU H t [v, r] ∧ Rp H v (stD e.1.1 e.1.2) ∧ RR K H r (mkRat (e.2 : Nat) N)
def WAt (K : PySem.W.Frag) (H : Hp) (N : Nat) (l : Addr) (ws : WL) : Prop := ∃ ts : List Addr, H l = some (.lst (ts.map V.ref)) ∧ Paired (WE K H N) ts ws
theorem WE.fz {t : Addr} {e : Ste × Nat} (z : Fz K H H') (h : WE K H N t e) : WE K H' N t e := by
  obtain ⟨v, r, h1, h2, h3⟩ := h
  exact ⟨v, r, h1.fz z, h2.fz z, h3.fz z⟩
theorem WAt.same {l : Addr} {ws : WL} (s : Same H H') (h : WAt K H N l ws) : WAt K H' N l ws := by
  obtain ⟨ts, h1, h2⟩ := h
  exact ⟨ts, s _ _ h1, Paired.mapP h2 fun _ _ z => z.fz (Fz.same s)⟩
def RE (K : PySem.W.Frag) (H : Hp) (N : Nat) (e : NE) (r : Ste × Nat) : Prop := e.1 = nk (stD r.1.1 r.1.2) ∧ Rp H (.ref e.2.1) (stD r.1.1 r.1.2) ∧ RR K H e.2.2 (mkRat (r.2 : Nat) N)
theorem RE.fz {e : NE} {r : Ste × Nat} (z : Fz K H H') (h : RE K H N e r) : RE K H' N e r := ⟨h.1, h.2.1.fz z, h.2.2.fz z⟩
theorem RE.key {e : NE} {r : Ste × Nat} (h : RE K H N e r) : NKey H e.1 e.2.1 := ⟨_, h.2.1, h.1.symm, by rw [h.1]; exact Nat.le_trans (dp_st _ _) (by decide)⟩
def RowAt (P : Program) (w : World) (K : PySem.W.Frag) (H : Hp) (N : Nat) (ra : Addr) (row : WL) : Prop := ∃ ents, H ra = some (NDo P w ra ents) ∧ Paired (RE K H N) ents row
theorem re_iff {e : NE} {r : Ste × Nat} (h : RE K H N e r) (t : Ste) : e.1 = nk (stD t.1 t.2) ↔ r.1 = t := by
  rw [h.1]
  constructor
  · intro z
    obtain ⟨z1, z2⟩ := nk_st z
    exact Prod.ext z1 z2
  · intro z
    rw [z]
theorem re_get {ents : List NE} {row : WL} (pr : Paired (RE K H N) ents row) (t : Ste) : (rget row t = none ∧ ndGet ents (nk (stD t.1 t.2)) = none) ∨ ∃ c v, rget row t = some c ∧ ndGet ents (nk (stD t.1 t.2)) = some v ∧ RR K H v (mkRat (c : Nat) N) := by
  induction pr with
  | nil => exact .inl ⟨rfl, rfl⟩
  | @cons e r es rs hq _ ih =>
    have hi := re_iff hq t
    unfold rget ndGet at ih ⊢
    by_cases z : r.1 = t
    · refine .inr ⟨r.2, e.2.2, ?_, ?_, hq.2.2⟩
      · simp [List.find?_cons, z]
      · simp [List.find?_cons, hi.mpr z]
    · have z' : ¬ e.1 = nk (stD t.1 t.2) := fun q => z (hi.mp q)
      simpa [List.find?_cons, z, z'] using ih
theorem re_put {ents : List NE} {row : WL} (pr : Paired (RE K H N) ents row) (t : Ste) {b : Addr} {v : V} {c : Nat} (hb : Rp H (.ref b) (stD t.1 t.2)) (hv : RR K H v (mkRat (c : Nat) N)) : Paired (RE K H N) (ndPut ents (nk (stD t.1 t.2)) b v) (rput row t c) := by
  unfold ndPut rput
  have e : (ndGet ents (nk (stD t.1 t.2))).isSome = (rget row t).isSome := by
    rcases re_get pr t with ⟨h1, h2⟩ | ⟨c, v, h1, h2, _⟩ <;> rw [h1, h2] <;> rfl
  rw [e]
  clear e
  split
  · rename_i hs
    clear hs
    induction pr with
    | nil => exact .nil
    | @cons e r es rs hq _ ih =>
      rw [List.map_cons, List.map_cons]
      refine .cons ?_ ih
      have hi := re_iff hq t
      by_cases z : r.1 = t
      · rw [if_pos z, if_pos (hi.mpr z)]
        exact ⟨hq.1, hq.2.1, hv⟩
      · rw [if_neg z, if_neg (fun q => z (hi.mp q))]
        exact hq
  · exact Paired.snoc pr ⟨rfl, hb, hv⟩
theorem RowAt.but {ra ra' : Addr} {row : WL} {u : HO} (bt : But ra' H H') (hl : H ra' = some u) (nu : ¬ Frz K u) (ne : ra ≠ ra') (h : RowAt P w K H N ra row) : RowAt P w K H' N ra row := by
  obtain ⟨ents, h1, h2⟩ := h
  exact ⟨ents, bt _ _ ne h1, Paired.mapP h2 fun _ _ z => z.fz (Fz.but bt hl nu)⟩
theorem RowAt.same {ra : Addr} {row : WL} (s : Same H H') (h : RowAt P w K H N ra row) : RowAt P w K H' N ra row := by
  obtain ⟨ents, h1, h2⟩ := h
  exact ⟨ents, s _ _ h1, Paired.mapP h2 fun _ _ z => z.fz (Fz.same s)⟩
theorem RowAt.butd {ra d : Addr} {row : WL} {kvs : List (Key × V)} (bt : But d H H') (hl : H d = some (.dK kvs)) (h : RowAt P w K H N ra row) : RowAt P w K H' N ra row := by
  obtain ⟨ents, h1, h2⟩ := id h
  exact h.but bt hl nf_dK (ne_of h1 hl fun z => by cases z)
def KE1 (P : Program) (w : World) (K : PySem.W.Frag) (H0 H : Hp) (N : Nat) (kv : Key × V) (e : Nat × WL) : Prop := kv.1 = Sum.inl (e.1 : Int) ∧ ∃ ra, kv.2 = .ref ra ∧ H0 ra = none ∧ RowAt P w K H N ra e.2
def FoundAt (P : Program) (w : World) (K : PySem.W.Frag) (H0 H : Hp) (N : Nat) (d : Addr) (f : FM) : Prop := ∃ kvs, H d = some (.dK kvs) ∧ Paired (KE1 P w K H0 H N) kvs f ∧ (kvs.map (·.2)).Nodup ∧ (f.map (·.1)).Nodup
theorem ke_iff {kv : Key × V} {e : Nat × WL} (h : KE1 P w K H0 H N kv e) (a : Nat) : kv.1 = Sum.inl (a : Int) ↔ e.1 = a := by
  rw [h.1]
  exact keyN
theorem ke_get {kvs : List (Key × V)} {f : FM} (pr : Paired (KE1 P w K H0 H N) kvs f) (a : Nat) : (fget f a = none ∧ valV kvs (Sum.inl (a : Int)) = none) ∨ ∃ row ra, fget f a = some row ∧ valV kvs (Sum.inl (a : Int)) = some (.ref ra) ∧ H0 ra = none ∧ RowAt P w K H N ra row := by
  induction pr with
  | nil => exact .inl ⟨rfl, rfl⟩
  | @cons kv e es rs hq _ ih =>
    have hi := ke_iff hq a
    unfold fget at ih ⊢
    by_cases z : e.1 = a
    · obtain ⟨_, ra, h1, h2, h3⟩ := hq
      refine .inr ⟨e.2, ra, ?_, ?_, h2, h3⟩
      · simp [List.find?_cons, z]
      · rw [valV_pos (hi.mpr z), h1]
    · rw [valV_neg (fun q => z (hi.mp q))]
      simpa [List.find?_cons, z] using ih
/-- an empty row for the answer a, if there is none -/
def fnew (f : FM) (a : Nat) : FM := if (fget f a).isSome = true then f else f ++ [(a, [])]
theorem fget_new (f : FM) (a : Nat) : fget (fnew f a) a = some ((fget f a).getD []) := by
  unfold fnew
  cases h : fget f a with
  | some row => simp [h]
  | none =>
    simp only [Option.isSome_none, Bool.false_eq_true, if_false, Option.getD_none]
    unfold fget at h ⊢
    rw [Option.map_eq_none_iff] at h
    rw [List.find?_append, h]
    simp
theorem fput_new (f : FM) (a : Nat) (r : WL) : fput (fnew f a) a r = fput f a r := by
  unfold fput
  rw [fget_new]
  simp only [Option.isSome_some, if_true]
  unfold fnew
  by_cases h : (fget f a).isSome = true
  · rw [if_pos h, if_pos h]
  · rw [if_neg h, if_neg h, List.map_append]
    congr 1
    · rw [← List.map_id f]
      rw [List.map_map]
      refine List.map_congr_left fun e he => ?_
      have : ¬ e.1 = a := fun z => h (by
        unfold fget
        rw [Option.isSome_map]
        exact List.find?_isSome.mpr ⟨e, he, by simp [z]⟩)
      simp [this]
    · simp
theorem ke_upd {kvs : List (Key × V)} {f : FM} (pr : Paired (KE1 P w K H0 H N) kvs f) (nd : (kvs.map (·.2)).Nodup) (nf : (f.map (·.1)).Nodup) (a : Nat) {ra : Addr} {row' : WL} {u : HO} (hv : valV kvs (Sum.inl (a : Int)) = some (.ref ra)) (bt : But ra H H') (hl : H ra = some u) (nu : ¬ Frz K u) (hr : RowAt P w K H' N ra row') :
    Paired (KE1 P w K H0 H' N) kvs (f.map fun e => if e.1 = a then (e.1, row') else e) := by
  induction pr with
  | nil => exact .nil
  | @cons kv e es rs hq pr' ih =>
    rw [List.map_cons, List.nodup_cons] at nd nf
    have hi := ke_iff hq a
    rw [List.map_cons]
    obtain ⟨q1, ra', q2, q3, q4⟩ := id hq
    by_cases z : e.1 = a
    · rw [valV_pos (hi.mpr z)] at hv
      have : V.ref ra' = .ref ra := q2.symm.trans (Option.some.inj hv)
      injection this with this
      subst this
      rw [if_pos z]
      refine .cons ⟨q1, ra', q2, q3, hr⟩ ?_
      -- the others are elsewhere
      have oth : ∀ {es : List (Key × V)} {rs : FM}, Paired (KE1 P w K H0 H N) es rs → kv.2 ∉ es.map (·.2) → Paired (KE1 P w K H0 H' N) es rs := by
        intro es rs p
        induction p with
        | nil => intro _; exact .nil
        | @cons kv2 e2 es2 rs2 hq2 _ ih2 =>
          intro hn
          rw [List.map_cons, List.mem_cons, not_or] at hn
          obtain ⟨a1, ra2, a2, a3, a4⟩ := hq2
          refine .cons ⟨a1, ra2, a2, a3, a4.but bt hl nu fun zz => hn.1 (by rw [q2, a2, zz])⟩ (ih2 hn.2)
      have e0 : rs.map (fun e => if e.1 = a then (e.1, row') else e) = rs := by
        conv => rhs; rw [← List.map_id rs]
        refine List.map_congr_left fun e' he' => ?_
        have : ¬ e'.1 = a := fun zz => nf.1 (by rw [z, ← zz]; exact List.mem_map.mpr ⟨e', he', rfl⟩)
        simp [this]
      rw [e0]
      exact oth pr' nd.1
    · rw [valV_neg (fun q => z (hi.mp q))] at hv
      rw [if_neg z]
      refine .cons ⟨q1, ra', q2, q3, q4.but bt hl nu fun zz => ?_⟩ (ih nd.2 nf.2 hv)
      obtain ⟨p, hp1, hp2⟩ := Option.map_eq_some_iff.mp hv
      exact nd.1 (by rw [q2, zz, ← hp2]; exact List.mem_map.mpr ⟨p, List.mem_of_find?_eq_some hp1, rfl⟩)
end
section
variable {P : Program} {w : World} {K : PySem.W.Frag} {H H' H0 : Hp} {N n : Nat}
theorem FoundAt.same {d : Addr} {f : FM} (s : Same H H') (h : FoundAt P w K H0 H N d f) : FoundAt P w K H0 H' N d f := by
  obtain ⟨kvs, h1, h2, h3⟩ := h
  exact ⟨kvs, s _ _ h1, Paired.mapP h2 fun _ _ ⟨q1, ra, q2, q3, q4⟩ => ⟨q1, ra, q2, q3, q4.same s⟩, h3⟩
theorem FoundAt.put {d ra : Addr} {f : FM} {a : Nat} {row' : WL} {ents : List NE} {kvs : List (Key × V)} (h : FoundAt P w K H0 H N d f) (hd : H d = some (.dK kvs)) (hv : valV kvs (Sum.inl (a : Int)) = some (.ref ra)) (bt : But ra H H') (hl : H ra = some (NDo P w ra ents)) (hr : RowAt P w K H' N ra row') :
    FoundAt P w K H0 H' N d (fput f a row') := by
  obtain ⟨kvs', h1, h2, h3, h4⟩ := h
  rw [hd] at h1
  cases h1
  have hs : (fget f a).isSome = true := by
    rcases ke_get h2 a with ⟨_, z⟩ | ⟨row, ra', z, _⟩
    · rw [hv] at z
      cases z
    · rw [z]
      rfl
  have e : fput f a row' = f.map fun e => if e.1 = a then (e.1, row') else e := by
    unfold fput
    rw [if_pos hs]
  refine ⟨kvs, bt _ _ (ne_of hd hl fun z => by cases z) hd, ?_, h3, fput_keys h4⟩
  rw [e]
  exact ke_upd h2 h3 h4 a hv bt hl nf_ext hr
theorem valV_app {kvs : List (Key × V)} {k : Key} {v : V} (h : valV kvs k = none) : valV (kvs ++ [(k, v)]) k = some v := by
  rw [valV_snoc k k v kvs h, if_pos rfl]
/-- row = found.setdefault(answer, {}) -/
theorem y_dsetd {σ : L2.St} {Q : VK} {i j : Nat} {d : Addr} {a : Nat} {f : FM} (hi : σ[i]? = some (some (.ref d))) (hj : σ[j]? = some (some (.int (a : Nat)))) (s0 : Same H0 H) (fd : H0 d = none) (hF : FoundAt P w K H0 H N d f) (hl : f.length ≤ 100000)
    (q : ∀ ra H3 kvs, But d H H3 → FoundAt P w K H0 H3 N d (fnew f a) → H3 d = some (.dK kvs) → valV kvs (Sum.inl (a : Int)) = some (.ref ra) → RowAt P w K H3 N ra ((fget f a).getD []) → H0 ra = none → Q (.ref ra) H3) : tDSetd (tVar i) (tVar j) (tDNewN P w) σ H Q := by
  obtain ⟨kvs, h1, h2, h3, h4⟩ := id hF
  have hlen := Paired.length h2
  refine ⟨_, hi, d, rfl, .inl ⟨kvs, .inl h1⟩, _, hj, fun p H' hp s hp' => ⟨kvs, Sum.inl (a : Int), s _ _ h1, rfl, by rw [PySem.sizeLine_eq]; omega, fun v hv => ?_, fun hn => ?_⟩⟩
  · rcases ke_get h2 a with ⟨_, z⟩ | ⟨row, ra, z1, z2, z3, z4⟩
    · rw [z] at hv
      cases hv
    · rw [z2] at hv
      cases hv
      refine q ra H' kvs (fun c o _ e => s c o e) ?_ (s _ _ h1) z2 (by rw [z1]; exact z4.same s) z3
      unfold fnew
      rw [z1, if_pos (show (some row).isSome = true from rfl)]
      exact hF.same s
  · rcases ke_get h2 a with ⟨z, _⟩ | ⟨row, ra, z1, z2, _⟩
    · have hd' := s _ _ h1
      have ne : p ≠ d := (ne_of_none h1 hp).symm
      have bt : But d H' (upd H' d (.dK (putK kvs (Sum.inl (a : Int)) (.ref p)))) := But.upd
      have rw0 : RowAt P w K (upd H' d (.dK (putK kvs (Sum.inl (a : Int)) (.ref p)))) N p [] := ⟨[], by rw [upd_ne ne]; exact hp', .nil⟩
      refine q p _ (kvs ++ [(Sum.inl (a : Int), .ref p)]) (Same.buts s bt) ?_ ?_ (valV_app hn) (by rw [z]; exact rw0) (s0.free hp)
      · unfold fnew
        rw [z, if_neg (show ¬ (none : Option WL).isSome = true from by decide)]
        refine ⟨kvs ++ [(Sum.inl (a : Int), .ref p)], by rw [upd_same, putK_new _ hn], Paired.snoc (Paired.mapP h2 fun _ _ ⟨q1, ra, q2, q3, q4⟩ => ⟨q1, ra, q2, q3, (q4.same s).butd bt hd'⟩) ⟨rfl, p, rfl, s0.free hp, rw0⟩, ?_, ?_⟩
        · rw [List.map_append, List.nodup_append]
          refine ⟨h3, by simp, fun x hx y hy z => ?_⟩
          simp at hy
          subst hy
          subst z
          have : ∀ {kvs : List (Key × V)} {f : FM}, Paired (KE1 P w K H0 H N) kvs f → V.ref p ∉ kvs.map (·.2) := by
            intro kvs f pr
            induction pr with
            | nil => simp
            | @cons kv e es rs hq _ ih =>
              obtain ⟨q1, ra, q2, q3, ents, q4, _⟩ := hq
              rw [List.map_cons, List.mem_cons, not_or]
              refine ⟨fun zz => ?_, ih⟩
              rw [q2] at zz
              injection zz with zz
              rw [← zz, hp] at q4
              cases q4
          exact this h2 hx
        · rw [List.map_append, List.nodup_append]
          refine ⟨h4, by simp, fun x hx y hy zz => ?_⟩
          simp at hy
          subst hy
          subst zz
          obtain ⟨e, he, rfl⟩ := List.mem_map.mp hx
          unfold fget at z
          rw [Option.map_eq_none_iff, List.find?_eq_none] at z
          exact z e he (by simp)
      · rw [upd_same, putK_new _ hn]
    · rw [z2] at hn
      cases hn
end
/-- bounds -/
def FB (f : FM) (m : Nat) : Prop := f.length ≤ m ∧ ∀ e ∈ f, e.2.length ≤ m ∧ ∀ r ∈ e.2, r.2 ≤ m * 2 ^ 20
theorem FB.get {f : FM} {m a : Nat} (h : FB f m) {row : WL} (e : fget f a = some row) : row.length ≤ m ∧ ∀ r ∈ row, r.2 ≤ m * 2 ^ 20 := by
  obtain ⟨p, h1, rfl⟩ := Option.map_eq_some_iff.mp e
  exact h.2 p (List.mem_of_find?_eq_some h1)
theorem FB.getD {f : FM} {m : Nat} (h : FB f m) (a : Nat) : ((fget f a).getD []).length ≤ m ∧ ∀ r ∈ (fget f a).getD [], r.2 ≤ m * 2 ^ 20 := by
  cases e : fget f a with
  | none => exact ⟨by simp, fun r hr => by simp at hr⟩
  | some row => exact h.get e
theorem rget_le {row : WL} {B : Nat} (h : ∀ r ∈ row, r.2 ≤ B) (t : Ste) : (rget row t).getD 0 ≤ B := by
  unfold rget
  cases e : row.find? fun e => decide (e.1 = t) with
  | none => exact Nat.zero_le _
  | some p => exact h p (List.mem_of_find?_eq_some e)
theorem radd_b {row : WL} {m c : Nat} {t : Ste} (h1 : row.length ≤ m) (h2 : ∀ r ∈ row, r.2 ≤ m * 2 ^ 20) (hc : c ≤ 2 ^ 20) : (radd row t c).length ≤ m + 1 ∧ ∀ r ∈ radd row t c, r.2 ≤ (m + 1) * 2 ^ 20 := by
  have hg := rget_le h2 t
  have up : m * 2 ^ 20 ≤ (m + 1) * 2 ^ 20 := Nat.mul_le_mul_right _ (by omega)
  have e : (m + 1) * 2 ^ 20 = m * 2 ^ 20 + 2 ^ 20 := Nat.succ_mul _ _
  unfold radd rput
  split
  · refine ⟨by rw [List.length_map]; omega, fun r hr => ?_⟩
    obtain ⟨r', hr', rfl⟩ := List.mem_map.mp hr
    split
    · show (rget row t).getD 0 + c ≤ _
      omega
    · exact Nat.le_trans (h2 r' hr') up
  · refine ⟨by rw [List.length_append]; simp; omega, fun r hr => ?_⟩
    rcases List.mem_append.mp hr with hr | hr
    · exact Nat.le_trans (h2 r hr) up
    · simp at hr
      subst hr
      show (rget row t).getD 0 + c ≤ _
      omega
theorem FB.add {f : FM} {m c a : Nat} {t : Ste} (h : FB f m) (hc : c ≤ 2 ^ 20) : FB (fadd f a t c) (m + 1) := by
  obtain ⟨g1, g2⟩ := h.getD a
  obtain ⟨r1, r2⟩ := radd_b (t := t) g1 g2 hc
  have up : m * 2 ^ 20 ≤ (m + 1) * 2 ^ 20 := Nat.mul_le_mul_right _ (by omega)
  unfold fadd fput
  split
  · refine ⟨by rw [List.length_map]; exact Nat.le_succ_of_le h.1, fun e he => ?_⟩
    obtain ⟨e', he', rfl⟩ := List.mem_map.mp he
    split
    · exact ⟨r1, r2⟩
    · exact ⟨Nat.le_succ_of_le (h.2 e' he').1, fun r hr => Nat.le_trans ((h.2 e' he').2 r hr) up⟩
  · refine ⟨by rw [List.length_append]; simp; exact h.1, fun e he => ?_⟩
    rcases List.mem_append.mp he with he | he
    · exact ⟨Nat.le_succ_of_le (h.2 e he).1, fun r hr => Nat.le_trans ((h.2 e he).2 r hr) up⟩
    · simp at he
      subst he
      exact ⟨r1, r2⟩
end Tn
set_option Elab.async false
set_option linter.all false
set_option maxRecDepth 100000
set_option maxHeartbeats 4000000
set_option pp.maxSteps 400
namespace Tn
open PySem PySem.Spec L2
theorem lcp_stepB {R : Addr → Nat → V → Hp → Prop} (mono : ∀ D ys i v H H', H D = some (.lst ys) → But D H H' → R D i v H → R D i v H') {D : Addr} {i : Nat} {H0 H1 H2 : Hp} {y : V} (hD : H0 D = none) (p : LcP R H0 D i H1) (hi : i < 100000) (s : Same H1 H2) (r : R D i y H2) :
    ∃ acc, H2 D = some (.lst acc) ∧ acc.length < sizeLine ∧ LcP R H0 D (i + 1) (upd H2 D (.lst (acc ++ [y]))) := by
  obtain ⟨s0, acc, ha, hl, hr⟩ := p
  refine ⟨acc, s _ _ ha, by rw [PySem.sizeLine_eq]; omega, Same.but (Same.trans s0 s) hD But.upd, acc ++ [y], upd_same, by rw [List.length_append, hl]; rfl, fun j z e => ?_⟩
  have ha2 := s _ _ ha
  by_cases hj : j < acc.length
  · rw [List.getElem?_append_left hj] at e
    exact mono D acc j z _ _ ha2 But.upd (mono D acc j z _ _ ha (fun a o _ e => s a o e) (hr j z e))
  · rw [List.getElem?_append_right (by omega)] at e
    have : j - acc.length = 0 := by
      cases h : j - acc.length with
      | zero => rfl
      | succ k =>
        rw [h] at e
        simp at e
    rw [this] at e
    have e : y = z := by simpa using e
    have ej : j = i := by omega
    rw [← e, ej]
    exact mono D acc i y _ _ ha2 But.upd r
def rLcKF (g : TG) (tt : TT) (te : TE) (vs : List Nat) (σ : L2.St) (x : V) (H1 : Hp) (Q : VK) : Prop := ∃ d kvs, x = .ref d ∧ H1 d = some (.dK kvs) ∧ ∀ o H2, But d H1 H2 → H2 d = some (.frz o (.dK kvs)) → ∀ D, H2 D = none → ∃ W : Nat → Nat → Hp → Prop, (∃ m, W 0 m (upd H2 D (.lst []))) ∧ ∀ i m H, W i m H →
  ((Iti d o kvs).stop i H ∧ Q (.ref D) H) ∨ ((Iti d o kvs).go i H ∧ ∃ Nx : Hp → Prop, (∀ H', Nx H' → ∃ m', m' < m ∧ W (i + 1) m' H') ∧ ∀ x H', (Iti d o kvs).yld i H x H' → g x (wipe σ vs) H' fun σ2 H2 => wipe σ2 vs = wipe σ vs ∧ tt σ2 H2 fun b H3 =>
    if b = true then te σ2 H3 fun y H4 => ∃ acc, H4 D = some (.lst acc) ∧ acc.length < sizeLine ∧ Nx (upd H4 D (.lst (acc ++ [y]))) else Nx H3)
section
variable {K : PySem.W.Frag} {P : Program} {w : World} {σ : L2.St} {H : Hp} {Q : VK} {te t0 : TE} {g : TG} {tt : TT} {vs : List Nat}
theorem x_lcKF (q : t0 σ H fun x H1 => rLcKF g tt te vs σ x H1 Q) : tLc (iItemsKF t0) g tt te vs σ H Q := q
theorem y_lcKF {d : Addr} {kvs : List (Key × V)} (R : Addr → Nat → V → Hp → Prop) (mono : ∀ D ys i v H H', H D = some (.lst ys) → But D H H' → R D i v H → R D i v H') (h : H d = some (.dK kvs)) (hl : kvs.length ≤ 100000)
    (hs : ∀ D i k v T H' acc, kvs[i]? = some (k, v) → H D = none → But d H H' → (∃ u, H' d = some u) → H' D = some (.lst acc) → H' T = some (.tup [kV k, v]) → ∀ Q' : VK, (∀ y H3, Same H' H3 → R D i y H3 → Q' y H3) → g (.ref T) (wipe σ vs) H' fun σ2 H2 => wipe σ2 vs = wipe σ vs ∧ te σ2 H2 Q')
    (mg : ∀ x σ H (Q Q' : L2.St → Hp → Prop), (∀ s h, Q s h → Q' s h) → g x σ H Q → g x σ H Q')
    (q : ∀ D H' acc, H D = none → But d H H' → H' D = some (.lst acc) → acc.length = kvs.length → (∀ i y, acc[i]? = some y → R D i y H') → Q (.ref D) H') : rLcKF g tYes te vs σ (.ref d) H Q := by
  refine ⟨d, kvs, rfl, h, fun o H2 b2 e2 D hD => ?_⟩
  have hD0 : H D = none := b2.free e2 hD
  refine lc_it walk_items (LcP R H2 D) (lcp_zero hD) (fun i H' _ p => p.1 _ _ e2) (fun i x H1 H' hi p y => ?_) (fun H' p => ?_)
  · obtain ⟨T, x1, y1, rfl, hT, eH, hx1, hy1⟩ := y
    obtain ⟨s0, acc, ha, hla, hra⟩ := id p
    have hkv : kvs[i]? = some kvs[i] := List.getElem?_eq_getElem hi
    have hx1 : kvs[i]?.map (fun kv => kV kv.1) = some x1 := hx1
    have hy1 : kvs[i]?.map Prod.snd = some y1 := hy1
    rw [hkv] at hx1 hy1
    have hx1 : x1 = kV kvs[i].1 := (Option.some.inj hx1).symm
    have hy1 : y1 = kvs[i].2 := (Option.some.inj hy1).symm
    subst hx1 hy1
    have sT : Same H1 H' := by
      rw [eH]
      exact Same.new hT
    have tT : H' T = some (.tup [kV kvs[i].1, kvs[i].2]) := by
      rw [eH]
      exact upd_same
    refine mg _ _ _ _ _ (fun s h z => ?_) (hs D i kvs[i].1 kvs[i].2 T H' acc hkv hD0 ((b2.same s0).same sT) ⟨_, sT _ _ (s0 _ _ e2)⟩ (sT _ _ ha) tT _ fun y H3 s3 r => lcp_stepB mono hD p (by omega) (sT.trans s3) r)
    exact ⟨z.1, by unfold tYes; dsimp only; rw [if_pos rfl]; exact z.2⟩
  · obtain ⟨s0, acc, ha, hla, hra⟩ := p
    exact q D H' acc hD0 (b2.same s0) ha hla hra
theorem x_itemsN (q : te σ H fun x H1 => ∃ a ents, x = .ref a ∧ H1 a = some (NDo P w a ents) ∧ ∀ p H', H1 p = none → Same H1 H' → H' p = some (DX.itemsO p a) → Q (.ref p) H') : tItemsN P w te σ H Q := q
theorem x_dnewK (q : ∀ p H', H p = none → Same H H' → H' p = some (.dK []) → Q (.ref p) H') : tDNewK σ H Q := fun p hp => q p _ hp (Same.new hp) upd_same
end
theorem paired_ix {α β : Type} {F : α → β → Prop} : ∀ {l : List α} {m : List β}, l.length = m.length → (∀ (i : Nat) a b, l[i]? = some a → m[i]? = some b → F a b) → Paired F l m
  | [], [], _, _ => .nil
  | [], _ :: _, h, _ => by simp at h
  | _ :: _, [], h, _ => by simp at h
  | a :: l, b :: m, h, f => .cons (f 0 a b rfl rfl) (paired_ix (by simpa using h) fun i a' b' x y => f (i + 1) a' b' (by simpa using x) (by simpa using y))
theorem WAt.but {K : PySem.W.Frag} {H H' : Hp} {N : Nat} {l D : Addr} {ws : WL} {ys : List V} (bt : But D H H') (hD : H D = some (.lst ys)) (ne : l ≠ D) (h : WAt K H N l ws) : WAt K H' N l ws := by
  obtain ⟨ts, h1, h2⟩ := h
  exact ⟨ts, bt _ _ ne h1, Paired.mapP h2 fun _ _ z => z.fz (Fz.but bt hD nf_lst)⟩
theorem we_of {K : PySem.W.Frag} {H : Hp} {N : Nat} {ents : List NE} {row : WL} {ts : List Addr} (pr : Paired (RE K H N) ents row) (pt : Paired (fun t (e : NE) => TU H t [.ref e.2.1, e.2.2]) ts ents) : Paired (WE K H N) ts row := by
  induction pr generalizing ts with
  | nil =>
    cases pt
    exact .nil
  | cons h t ih =>
    cases pt with
    | cons h' t' => exact .cons ⟨_, _, h', h.2.1, h.2.2⟩ (ih t')
theorem mk_kvs {φ : Addr → Prop} {K : PySem.W.Frag} {H : Hp} {N : Nat} {ts : List Addr} {f : FM} (pr : Paired (fun t (e : Nat × WL) => ∃ l, TU H t [.int (e.1 : Nat), .ref l] ∧ φ l ∧ WAt K H N l e.2) ts f) :
    ∃ kvs : List (Key × V), Paired (fun p kv => SqT K H p [kV kv.1, kv.2]) ts kvs ∧ Paired (fun (kv : Key × V) (e : Nat × WL) => kv.1 = Sum.inl (e.1 : Int) ∧ ∃ l, kv.2 = .ref l ∧ φ l ∧ WAt K H N l e.2) kvs f := by
  induction pr with
  | nil => exact ⟨[], .nil, .nil⟩
  | @cons t e ts f h _ ih =>
    obtain ⟨l, h1, h2⟩ := h
    obtain ⟨kvs, c1, c2⟩ := ih
    exact ⟨(Sum.inl (e.1 : Int), .ref l) :: kvs, .cons h1.sq c1, .cons ⟨rfl, l, rfl, h2⟩ c2⟩
theorem kv_keys {kvs : List (Key × V)} {f : FM} {F : V → WL → Prop} (pr : Paired (fun (kv : Key × V) (e : Nat × WL) => kv.1 = Sum.inl (e.1 : Int) ∧ F kv.2 e.2) kvs f) : kvs.map (·.1) = (f.map (·.1)).map fun (a : Nat) => (Sum.inl (a : Int) : Key) := by
  induction pr with
  | nil => rfl
  | cons h t ih => rw [List.map_cons, List.map_cons, List.map_cons, ih, h.1]
theorem re_ok {K : PySem.W.Frag} {H : Hp} {N : Nat} {ents : List NE} {row : WL} (pr : Paired (RE K H N) ents row) : NDok H ents := by
  intro e he
  obtain ⟨j, hj⟩ := List.mem_iff_getElem?.mp he
  obtain ⟨h1, h2⟩ := List.getElem?_eq_some_iff.mp hj
  have hl := Paired.length pr
  obtain ⟨a, q1, q2⟩ := DX.pget pr (List.getElem?_eq_getElem (l := row) (i := j) (by omega))
  rw [hj] at q1
  cases q1
  exact q2.key
def SideAt (φ : Addr → Prop) (K : PySem.W.Frag) (H : Hp) (N : Nat) (d : Addr) (f : FM) : Prop := ∃ kvs, H d = some (.dK kvs) ∧ Paired (fun (kv : Key × V) (e : Nat × WL) => kv.1 = Sum.inl (e.1 : Int) ∧ ∃ l, kv.2 = .ref l ∧ φ l ∧ WAt K H N l e.2) kvs f
local macro_rules | `(tactic| walk_at "tz") => `(tactic| first
  | ((refine' Tz.same ?s); (case s => with_reducible assumption))
  | ((refine' Tz.but ?b ?h ?n); (case b => with_reducible assumption); (case h => walk_at "look"); (case n => (intro o v z; cases z))))
local macro_rules | `(tactic| walk_at "fz") => `(tactic| first
  | ((refine' Fz.same ?s); (case s => with_reducible assumption))
  | ((refine' Fz.but ?b ?h ?n); (case b => with_reducible assumption); (case h => walk_at "look"); (case n => first | exact nf_lst | exact nf_dK | exact nf_ext | assumption)))
local macro_rules | `(tactic| walk_at "look") => `(tactic| first
  | with_reducible assumption
  | ((with_reducible refine' Same.app ?s ?m); (case s => with_reducible assumption); (case m => walk_at "look"))
  | ((with_reducible refine' RR.fz ?z ?m); (case z => walk_at "fz"); (case m => walk_at "look"))
  | ((with_reducible refine' Rp.tz ?z ?m); (case z => walk_at "tz"); (case m => walk_at "look"))
  | ((with_reducible refine' TU.tz ?z ?m); (case z => walk_at "tz"); (case m => walk_at "look"))
  | ((with_reducible refine' RpL.tz ?z ?m); (case z => walk_at "tz"); (case m => walk_at "look"))
  | ((with_reducible refine' GM.fz ?z ?m); (case z => walk_at "fz"); (case m => walk_at "look"))
  | ((with_reducible refine' But.app' ?b ?n ?m); (case b => with_reducible assumption); (case n => first | assumption | (refine Ne.symm ?_; assumption)); (case m => walk_at "look"))
  | ((with_reducible refine' But.app ?b ?l ?d ?m); (case b => with_reducible assumption); (case m => walk_at "look"); (case l => walk_at "look"); (case d => (intro z; cases z))))
local macro_rules | `(tactic| walk_at "rp") => `(tactic| first
  | (with_reducible assumption)
  | walk_at "look"
  | exact Rp.bl _ | exact Rp.int _ | exact Rp.str _ | exact Rp.non
  | ((refine' Rp.tup ?h ?l); (case h => walk_at "look"); (case l => walk_at "rpl")))
local macro_rules | `(tactic| walk_at "rpl") => `(tactic| first
  | exact RpL.nil
  | ((refine' RpL.cons ?h ?l); (case h => walk_at "rp"); (case l => walk_at "rpl")))
local macro_rules | `(tactic| walk_at "vc") => `(tactic| repeat (first
  | with_reducible refine' x_seq ?_
  | with_reducible refine' x_ifS ?_
  | with_reducible refine' x_asg ?_
  | with_reducible refine' x_drop ?_
  | with_reducible refine' x_ret ?_
  | with_reducible refine' x_name ?_
  | with_reducible refine' x_c ?_
  | ((with_reducible refine' x_var ?h ?_); (case h => rfl))
  | with_reducible refine' x_op ?_
  | with_reducible refine' x_un ?_
  | with_reducible refine' x_tup ?_
  | with_reducible refine' x_lst ?_
  | ((with_reducible refine' x_gtup ?h ?l ?_); (case h => walk_at "look"); (case l => rfl))
  | ((with_reducible refine' x_gtup' ?h ?l ?_); (case h => walk_at "look"); (case l => rfl))
  | with_reducible refine' x_gcons ?_
  | with_reducible refine' x_gnil ?_
  | with_reducible refine' x_nil ?_
  | with_reducible refine' x_cons ?_
  | with_reducible refine' x_call ?_
  | with_reducible refine' x_meth ?_
  | ((with_reducible refine' x_methv ?h ?l ?_); (case h => walk_at "look"); (case l => first | rfl | decide +kernel))
  | with_reducible refine' x_make ?_
  | with_reducible refine' x_cb ?_
  | with_reducible refine' x_test ?_
  | with_reducible refine' x_B ?_
  | with_reducible refine' x_and ?_
  | with_reducible refine' x_or ?_
  | with_reducible refine' x_not ?_
  | with_reducible refine' x_if ?_
  | with_reducible refine' x_andV ?_
  | with_reducible refine' x_orV ?_
  | with_reducible refine' x_notV ?_
  | with_reducible refine' x_next ?_
  | with_reducible refine' x_gfldc ?_
  | with_reducible refine' x_bmF ?_
  | with_reducible refine' x_bmF0 ?_
  | ((with_reducible refine' y_tyL ?h ?_); (case h => walk_at "look"))
  | ((with_reducible refine' y_tyD ?h ?_); (case h => walk_at "look"))
  | ((with_reducible refine' y_lenL ?h ?_); (case h => walk_at "look"))
  | ((with_reducible refine' y_lenR ?h ?_); (case h => walk_at "look"))
  | with_reducible refine' x_forT ?_
  | with_reducible refine' x_forL ?_
  | with_reducible refine' x_lcT ?_
  | with_reducible refine' x_lcL ?_
  | ((with_reducible refine' y_tupleL ?h ?_); (case h => walk_at "look"); intro _ _ _ _ _)
  | ((with_reducible refine' y_tupleR ?h ?_); (case h => walk_at "look"))
  | ((with_reducible refine' y_tupleT ?h ?_); (case h => walk_at "look"))
  | with_reducible refine' x_cont ?_
  | with_reducible refine' x_dget ?_
  | with_reducible refine' x_din ?_
  | with_reducible refine' x_dput ?_
  | ((with_reducible refine' x_dnewN ?_); intro _ _ _ _ _)
  | with_reducible refine' x_nget2 ?_
  | with_reducible refine' x_nput ?_
  | with_reducible refine' x_lcN ?_
  | with_reducible refine' x_lcKF ?_
  | with_reducible refine' x_itemsN ?_
  | ((with_reducible refine' x_dnewK ?_); intro _ _ _ _ _)
  | with_reducible refine' x_forRev ?_
  | with_reducible refine' x_sl ?_
  | with_reducible refine' x_nopart ?_
  | with_reducible refine' x_part ?_
  | with_reducible refine' x_partI ?_
  | with_reducible refine' x_revL ?_
  | with_reducible refine' x_sfldc ?_
  | with_reducible refine' x_bl ?_
  | ((with_reducible refine' x_fldc ?h ?l ?_); (case h => walk_at "look"); (case l => first | rfl | decide +kernel))
  | ((with_reducible refine' x_setc ?h ?l ?_); (case h => walk_at "look"); (case l => exact Nat.le_of_ble_eq_true rfl); intro _ _ _)
  | ((with_reducible refine' y_num ?h ?_); (case h => walk_at "look"))
  | ((with_reducible refine' y_den ?h ?_); (case h => walk_at "look"))
  | with_reducible refine' y_I0 ?_
  | ((with_reducible refine' y_ixS ?h ?e ?a ?_); (case h => walk_at "look"); (case e => rfl); (case a => rfl))
  | ((with_reducible refine' y_ixI ?h ?e ?a ?_); (case h => walk_at "look"); (case e => rfl); (case a => rfl))
  | ((with_reducible refine' y_ixB ?h ?e ?a ?_); (case h => walk_at "look"); (case e => rfl); (case a => rfl))
  | ((with_reducible refine' y_ixR ?h ?e ?a ?_); (case h => walk_at "look"); (case e => rfl); (case a => rfl); intro _ _)
  | ((with_reducible refine' y_ixT ?h ?a ?_); (case h => walk_at "look"); (case a => rfl))
  | ((with_reducible refine' y_eq ?s ?_); (case s => rfl))
  | ((with_reducible refine' y_ne ?s ?_); (case s => rfl))
  | ((with_reducible refine' x_rtup ?l ?_); (case l => exact Nat.le_of_ble_eq_true rfl); intro _ _ _ _ _)
  | ((with_reducible refine' x_rlst ?l ?_); (case l => exact Nat.le_of_ble_eq_true rfl); intro _ _ _ _ _)
  | ((with_reducible refine' ite_t ?h ?_); (case h => first | with_reducible rfl | assumption | exact decide_eq_true (by omega) | decide +kernel | rfl))
  | ((with_reducible refine' ite_f ?h ?_); (case h => first | with_reducible rfl | assumption | exact decide_eq_false (by omega) | decide +kernel | rfl))))
def sp_Look_split (K : PySem.W.Frag) : Sp := fun vs H Q _ => ∃ (p al l : Addr) (side : Nat) (n s0 s1 N : Nat) (left : Int) (ws : WL), vs = [.ref p, .int (side : Nat), .ref l, .str "p", .int 0] ∧ LookAt K H p al n s0 s1 left ∧ side < 2 ∧ WAt K H N l ws ∧ (∀ e ∈ ws, okW n e) ∧ ws.length ≤ 1000 ∧ 0 < n ∧ n < 60 ∧ s0 < 1000 ∧ s1 < 1000 ∧ N ≠ 0 ∧ N < 2 ^ 40 ∧
  ∀ d H', Same H H' → SideAt (fun l => H l = none) K H' N d (splitM n (if side = 0 then s0 else s1) ws) → Q (.ref d) H'
section
variable {P : Program} {w : World} {K : PySem.W.Frag} {mg : Str → Option Value} {base : Heap}
theorem sc_Look_split : FnScope ["self", "side", "weights", "name", "given", "found", "state", "weight", "after", "answer", "chance", "row"] ["self", "side", "weights", "name", "given"] (defScope s_Look_split) := ⟨rfl, rfl, rfl, by decide +kernel, rfl, by decide +kernel, by decide +kernel⟩
theorem ok_Look_split (T : Tx K mg) {fd : FuncData} (F : FnX K d_Look_split fd) : FnOk P w K mg base CX0 7 (He.fAd K d_Look_split.at_) fd ["self", "side", "weights", "name", "given"] (sp_Look_split K) := by
  refine F.ok sc_Look_split (fun vs H Q E h => ?_) (fun cdv A outer s0 H vs Q E hr h => ?_)
  · obtain ⟨p, al, l, side, n, s0, s1, N, left, ws, rfl, _⟩ := h
    rfl
  obtain ⟨p, al, l, side, n, s0, s1, N, left, ws, rfl, hL, hside, hW, hok, hwl, n0, hn, hs0, hs1, hN0, hN, q⟩ := h
  obtain ⟨dx, rt, r0, r1, t, L1, L2, L3, L4, L5, L6⟩ := id hL
  refine ⟨_, PSs.nox (pss_cons (ps_set (i := 5) sc_Look_split.nd rfl (Or.inl rfl) pe_dnewK)
      (pss_cons (ps_for PassesOwn.never rfl (pi_list (pv 2)) (pg_tup rfl (pgs_cons (pg_name (i := 6) sc_Look_split.nd rfl (Or.inl rfl)) (pgs_cons (pg_name (i := 7) sc_Look_split.nd rfl (Or.inl rfl)) pgs_nil))) (pss_one (ps_for PassesOwn.never rfl (pi_list (pe_metc (c_Runner_ends T) (pe_ix ix_tupF (pe_fldc T.cl_Look T.n_Look_runners (pv 0)) (pv 1) (fun _ _ => rfl)) T.cl_Runner T.m_Runner_ends (hr.mono (by omega)) (pa_cons (pv 6) (pa_cons (pv 3) (pa_cons (pv 4) pa_nil))))) (pg_tup rfl (pgs_cons (pg_name (i := 8) sc_Look_split.nd rfl (Or.inl rfl)) (pgs_cons (pg_name (i := 9) sc_Look_split.nd rfl (Or.inl rfl)) (pgs_cons (pg_name (i := 10) sc_Look_split.nd rfl (Or.inl rfl)) pgs_nil)))) (pss_cons (ps_set (i := 11) sc_Look_split.nd rfl (Or.inl rfl) (pe_dsetd (pv 5) (pv 9) (pe_dnewN (P := P) (w := w) rfl rfl) ⟨rfl, rfl, rfl, rfl⟩))
      (pss_one (ps_nput (P := P) (w := w) rfl rfl hr.units (pv 11) (pv 8) (pe_op (op_own (c_Ratio_add T) T.m_Ratio_add T.self_Ratio (hr.mono (by omega))) (pe_nget2 (P := P) (w := w) rfl rfl hr.units (pv 11) (pv 8) (pe_mkc (c_Ratio_init1 T) T.mk_Ratio (hr.mono (by omega)) rfl T.g_Ratio (pa_cons pe_int pa_nil)) ⟨rfl, rfl, rfl, rfl⟩) (pe_op (op_own (c_Ratio_mul T) T.m_Ratio_mul T.self_Ratio (hr.mono (by omega))) (pv 7) (pv 10))) rfl))))))
      (pss_one (ps_ret (pe_callTy (call_dictP rfl) (by rfl) T.f_dict (by decide +kernel) (pa_cons (pe_lc (own := [("answer", 9), ("row", 11)]) (g := gTup K 2 (gCons (gName 9) (gCons (gName 11) gNil))) (tt := tYes) (by rfl) sc_Look_split.nd (pi_itemsKF (pv 5)) (blkOk_by (own := [("answer", 9), ("row", 11)]) (N := ["self", "side", "weights", "name", "given", "found", "state", "weight", "after", "answer", "chance", "row"]) (sc := defScope s_Look_split) (by decide +kernel)) (fun _ _ _ _ _ => (pg_tup rfl (pgs_cons (pg_name (i := 9) sc_Look_split.nd rfl (Or.inl rfl)) (pgs_cons (pg_name (i := 11) sc_Look_split.nd rfl (Or.inl rfl)) pgs_nil)))) (fun _ _ _ _ _ => pts_nil) (fun _ _ _ _ _ => (pe_tupF (pa_cons (pv 9) (pa_cons (pe_callTy (call_listItN (P := P) (w := w) rfl rfl rfl) (by rfl) T.f_list (by decide +kernel) (pa_cons (pe_itemsN (P := P) (w := w) rfl rfl (pv 11)) pa_nil)) pa_nil))))) pa_nil)))))), ?_⟩
  generalize hs : (if side = 0 then s0 else s1) = s at q
  have hs' : s < 1000 := by rw [← hs]; split <;> omega
  obtain ⟨rv, hrv, hR⟩ : ∃ rv, [r0, r1][side]? = some rv ∧ RunAt K H rv n s := by
    match side, hside with
    | 0, _ => exact ⟨r0, rfl, hs ▸ L3⟩
    | 1, _ => exact ⟨r1, rfl, hs ▸ L4⟩
  walk_at "vc"
  rename_i d H1 f1 s1' e1
  obtain ⟨ts, hl, hpr⟩ := id hW
  have hlen := Paired.length hpr
  refine y_forL (s1' _ _ hl) (fun i σ' H' => ∃ z1 z2 z3 z4 z5 z6, σ' = [some (.ref p), some (.int (side : Nat)), some (.ref l), some (.str "p"), some (.int 0), some (.ref d), z1, z2, z3, z4, z5, z6] ∧ Same H H' ∧ FoundAt P w K H H' N d ((ws.take i).foldl (rowM n s) []) ∧ FB ((ws.take i).foldl (rowM n s) []) (i * n)) ?h0 ?hll ?hs ?hd
  case h0 => exact ⟨none, none, none, none, none, none, rfl, s1', ⟨[], e1, .nil, by simp, by simp⟩, ⟨by simp, fun e he => by simp at he⟩⟩
  case hll => exact fun i σ' H' _ ⟨_, _, _, _, _, _, _, s, _⟩ => s _ _ hl
  case hs =>
    rintro i x σ' H' hi ⟨z1, z2, z3, z4, z5, z6, rfl, sH, hF, hB⟩
    have hi2 : i < ws.length := by
      have := (List.getElem?_eq_some_iff.mp hi).1
      rw [List.length_map, hlen] at this
      exact this
    rw [List.getElem?_map] at hi
    obtain ⟨te, hte, rfl⟩ := Option.map_eq_some_iff.mp hi
    obtain ⟨e, he, sv, rr, k1, k2, k3⟩ : ∃ e, ws[i]? = some e ∧ WE K H N te e := by
      obtain ⟨a, h1, h2⟩ := DX.pget hpr (List.getElem?_eq_getElem (l := ws) hi2)
      rw [hte] at h1
      cases h1
      exact ⟨_, List.getElem?_eq_getElem hi2, h2⟩
    obtain ⟨o1, o2, o3, o4, o5, o6⟩ := hok e (List.mem_of_getElem? he)
    have k1' := k1.same sH
    have L1' := sH _ _ L1
    walk_at "vc"
    refine y_ixT (L2.same sH) (atI_nat hrv) ?_
    refine y_runM (hR.same sH) (fun _ => rfl) ?_
    walk_at "vc"
    refine ⟨rv, sv, n, s, e.1.1, e.1.2, rfl, hR.same sH, k2.same sH, o1, o2, o3, o4, n0, hn, hs', fun le H2 s2 hE => ?_⟩
    obtain ⟨tes, q1, q2, q3⟩ := hE
    have sH2 : Same H H2 := sH.trans s2
    generalize hf0 : (ws.take i).foldl (rowM n s) [] = f0 at hF hB
    refine y_forL q1 (fun j σ' H' => ∃ z3 z4 z5 z6, σ' = [some (.ref p), some (.int (side : Nat)), some (.ref l), some (.str "p"), some (.int 0), some (.ref d), some sv, some rr, z3, z4, z5, z6] ∧ Same H H' ∧ Fz K H2 H' ∧ H' le = some (.lst (tes.map V.ref)) ∧ FoundAt P w K H H' N d ((List.range j).foldl (stepM n s e) f0) ∧ FB ((List.range j).foldl (stepM n s e) f0) (i * n + j)) ⟨_, _, _, _, rfl, sH2, Fz.refl, q1, hF.same s2, hB⟩ (fun _ _ _ _ ⟨_, _, _, _, _, _, _, h, _⟩ => h) ?_ ?_
    · rintro j x σ' H3 hj ⟨z3, z4, z5, z6, rfl, sH3, z23, hle, hF3, hB3⟩
      have hj2 : j < n := by
        have := (List.getElem?_eq_some_iff.mp hj).1
        rw [List.length_map, q2] at this
        exact this
      rw [List.getElem?_map] at hj
      obtain ⟨t3, ht3, rfl⟩ := Option.map_eq_some_iff.mp hj
      obtain ⟨v3, r3, m1, m2, m3⟩ := q3 j t3 ht3
      obtain ⟨b, xb, rfl, m4, m5⟩ := id m2.t_
      have m1' := m1.fz z23
      walk_at "vc"
      have bnd : i * n + j ≤ 60000 := by
        have : i * n ≤ 1000 * n := Nat.mul_le_mul_right _ (by omega)
        omega
      refine y_dsetd rfl rfl sH3 f1 hF3 (by have := hB3.1; omega) fun ra H4 kvs b4 hF4 hd4 hv4 hR4 fra => ?_
      obtain ⟨ents, hra, prE⟩ := id hR4
      obtain ⟨kv0, hd0, _⟩ := id hF3
      have z24 : Fz K H2 H4 := z23.trans (Fz.but b4 hd0 nf_dK)
      walk_at "vc"
      refine ⟨ra, ents, rfl, hra, ?_⟩
      walk_at "vc"
      refine y_mkR' (r := 0) (by decide) (by decide) (by decide) (by decide +kernel) fun v5 H5 s5 h5 => ?_
      have z25 : Fz K H2 H5 := z24.trans (Fz.same s5)
      have prE5 : Paired (RE K H5 N) ents _ := Paired.mapP prE fun _ _ z => z.fz (Fz.same s5)
      have key5 : NKey H5 (nk (stD (eKs e.1.1 j) (eB e.1.1 e.1.2 j))) b := ⟨_, m2.fz z25, rfl, Nat.le_trans (dp_st _ _) (by decide)⟩
      refine ⟨ents, _, b, s5 _ _ hra, re_ok prE5, rfl, key5, ?_⟩
      generalize hrow : (fget ((List.range j).foldl (stepM n s e) f0) (eAns n s e.1.1 e.1.2 j)).getD [] = row0 at prE5 hR4
      have rb := hB3.getD (eAns n s e.1.1 e.1.2 j)
      rw [hrow] at rb
      have ob := rget_le rb.2 (eKs e.1.1 j, eB e.1.1 e.1.2 j)
      have hget : RR K H5 ((ndGet ents (nk (stD (eKs e.1.1 j) (eB e.1.1 e.1.2 j)))).getD v5) (mkRat (((rget row0 (eKs e.1.1 j, eB e.1.1 e.1.2 j)).getD 0 : Nat) : Int) N) := by
        rcases re_get prE5 (eKs e.1.1 j, eB e.1.1 e.1.2 j) with ⟨g1, g2⟩ | ⟨c, v, g1, g2, g3⟩
        · rw [g1]
          have g2' : ndGet ents (nk (stD (eKs e.1.1 j) (eB e.1.1 e.1.2 j))) = none := g2
          rw [g2']
          show RR K H5 v5 (mkRat 0 N)
          rw [mk_zero]
          exact h5
        · rw [g1]
          have g2' : ndGet ents (nk (stD (eKs e.1.1 j) (eB e.1.1 e.1.2 j))) = some v := g2
          rw [g2']
          exact g3
      generalize hold : (rget row0 (eKs e.1.1 j, eB e.1.1 e.1.2 j)).getD 0 = old at hget ob
      generalize ndGet ents (nk (stD (eKs e.1.1 j) (eB e.1.1 e.1.2 j))) = og at hget
      have obs : old < 2 ^ 40 := by omega
      walk_at "vc"
      refine y_rop ((k3.same sH2).fz z25) (m3.fz z25) (sm_mk hN0 (by omega) (by omega)) (sm_1n n hn n0) fun v6 H6 s6 h6 => ?_
      have h6 : RR K H6 v6 (mkRat ((e.2 / n : Nat) : Int) N) := by
        have := h6
        rwa [mk_div hN0 (by omega) o5] at this
      have cb : e.2 / n < 2 ^ 20 := Nat.lt_of_le_of_lt (Nat.div_le_self _ _) o6
      refine y_rop (hget.same s6) h6 (sm_mk hN0 (by omega) (by omega)) (sm_mk hN0 (by rw [Int.natAbs_natCast]; omega) (by omega)) fun v7 H7 s7 h7 => ?_
      have h7 : RR K H7 v7 (mkRat ((old + e.2 / n : Nat) : Int) N) := by
        have := h7
        rwa [mk_add _ _ hN0, ← Int.natCast_add] at this
      have s57 : Same H5 H7 := s6.trans s7
      have s47 : Same H4 H7 := s5.trans s57
      have z27 : Fz K H2 H7 := z25.trans (Fz.same s57)
      have prE7 : Paired (RE K H7 N) ents row0 := Paired.mapP prE5 fun _ _ z => z.fz (Fz.same s57)
      walk_at "vc"
      refine ⟨ra, ents, _, b, rfl, s47 _ _ hra, re_ok prE7, rfl, key5.tz (Tz.same s57), by have := Paired.length prE7; omega, fun H8 b8 e8 => ?_⟩
      have z78 : Fz K H7 H8 := Fz.but b8 (s47 _ _ hra) nf_ext
      have pr8 : Paired (RE K H8 N) (ndPut ents (nk (stD (eKs e.1.1 j) (eB e.1.1 e.1.2 j))) b v7) (rput row0 (eKs e.1.1 j, eB e.1.1 e.1.2 j) (old + e.2 / n)) :=
        re_put (t := (eKs e.1.1 j, eB e.1.1 e.1.2 j)) (Paired.mapP prE7 fun _ _ z => z.fz z78) ((m2.fz z27).fz z78) (h7.fz z78)
      have sH4 : Same H H4 := Same.but sH3 f1 b4
      have hF8 := (hF4.same s47).put (s47 _ _ hd4) hv4 b8 (s47 _ _ hra) ⟨_, e8, pr8⟩
      rw [fput_new] at hF8
      have ef : fput ((List.range j).foldl (stepM n s e) f0) (eAns n s e.1.1 e.1.2 j) (rput row0 (eKs e.1.1 j, eB e.1.1 e.1.2 j) (old + e.2 / n)) = (List.range (j + 1)).foldl (stepM n s e) f0 := by
        rw [List.range_succ, List.foldl_append]
        show _ = fput ((List.range j).foldl (stepM n s e) f0) _ (rput ((fget ((List.range j).foldl (stepM n s e) f0) (eAns n s e.1.1 e.1.2 j)).getD []) _ ((rget ((fget ((List.range j).foldl (stepM n s e) f0) (eAns n s e.1.1 e.1.2 j)).getD []) (eKs e.1.1 j, eB e.1.1 e.1.2 j)).getD 0 + e.2 / n))
        rw [hrow, hold]
      rw [ef] at hF8
      refine ⟨_, _, _, _, rfl, Same.but (sH4.trans s47) fra b8, z27.trans z78, ?_, hF8, ?_⟩
      · have l4 : H4 le = _ := b4 _ _ (ne_of hle hd0 fun z => by cases z) hle
        exact b8 _ _ (ne_of (s47 _ _ l4) (s47 _ _ hra) fun z => by cases z) (s47 _ _ l4)
      · rw [List.range_succ, List.foldl_append]
        exact hB3.add (Nat.le_of_lt cb)
    · rintro σ' H3 ⟨z3, z4, z5, z6, rfl, sH3, z23, hle, hF3, hB3⟩
      rw [List.length_map, q2] at hF3 hB3
      have ef : (ws.take (i + 1)).foldl (rowM n s) [] = (List.range n).foldl (stepM n s e) f0 := by
        rw [List.take_add_one, he, List.foldl_append, hf0]
        rfl
      refine ⟨_, _, _, _, _, _, rfl, sH3, by rw [ef]; exact hF3, ?_⟩
      rw [ef, Nat.succ_mul]
      exact hB3
  case hd =>
    rintro σ' H' ⟨z1, z2, z3, z4, z5, z6, rfl, sH, hF, hB⟩
    walk_at "vc"
    obtain ⟨kvs, h1, h2, h3, h4⟩ := id hF
    have hfl : ts.length = ws.length := hlen
    rw [List.length_map, hfl, List.take_length] at h2 h4 hB hF
    have hkl := Paired.length h2
    have hwn : ws.length * n ≤ 60000 := by
      have : ws.length * n ≤ 1000 * n := Nat.mul_le_mul_right _ hwl
      omega
    generalize hf : ws.foldl (rowM n s) [] = f at h2 h4 hB hF hkl
    have hfs : splitM n s ws = f := hf
    refine y_lcKF (fun D i v H' => ∃ (t l : Addr) (e : Nat × WL), v = .ref t ∧ f[i]? = some e ∧ TU H' t [.int (e.1 : Nat), .ref l] ∧ WAt K H' N l e.2 ∧ l ≠ D ∧ H l = none) (fun D ys i v H H' hD bt ⟨t, l, e, g1, g2, g3, g4, g5, g6⟩ => ⟨t, l, e, g1, g2, g3.tz (Tz.but bt hD fun o v z => by cases z), g4.but bt hD g5, g5, g6⟩) h1 (by have := hB.1; omega) (fun D i k v T' H2 acc hkv hD bd hdd hacc hT Q' q' => ?_) (mg_tup (mg_cons mg_name (mg_cons mg_name mg_nil))) fun D H2 acc hD bd hacc hla hr1 => ?_
    · have hi : i < f.length := by
        have := (List.getElem?_eq_some_iff.mp hkv).1
        omega
      obtain ⟨kv', g1, g2, ra, g3, g4, g5⟩ := DX.pget h2 (List.getElem?_eq_getElem (l := f) hi)
      rw [hkv] at g1
      cases g1
      simp only at g2 g3
      subst g2 g3
      obtain ⟨ents, hra, prE⟩ := id (g5.butd bd h1)
      have hT : H2 T' = some (.tup [.int (f[i].1 : Nat), .ref ra]) := hT
      walk_at "vc"
      refine ⟨rfl, ?_⟩
      walk_at "vc"
      refine ⟨ra, ents, rfl, hra, fun pi H3 f3 s3 e3 => ?_⟩
      walk_at "vc"
      refine ⟨pi, ra, ents, rfl, e3, s3 _ _ hra, fun H4 li ts4 s4 f4 e4 pr4 => ?_⟩
      walk_at "vc"
      rename_i t5 H5 f5 s5 tu5
      have s25 : Same H2 H5 := (s3.trans s4).trans s5
      refine q' _ _ s25 ⟨t5, li, f[i], rfl, List.getElem?_eq_getElem hi, tu5, WAt.same s5 ⟨ts4, e4, we_of (Paired.mapP prE fun _ _ z => z.fz (Fz.same (s3.trans s4))) pr4⟩, fun z => ?_, ?_⟩
      · rw [z] at f4
        rw [s3 _ _ hacc] at f4
        cases f4
      · obtain ⟨u, hdd⟩ := hdd
        exact sH.free (bd.free hdd (s3.free f4))
    · obtain ⟨ps, rfl, hps⟩ := refs_ex (R := fun i t => ∃ (l : Addr) (e : Nat × WL), f[i]? = some e ∧ TU H2 t [.int (e.1 : Nat), .ref l] ∧ H l = none ∧ WAt K H2 N l e.2) fun i y e => let ⟨t, l, e, g1, g2, g3, g4, g5, g6⟩ := hr1 i y e; ⟨t, g1, l, e, g2, g3, g6, g4⟩
      rw [List.length_map] at hla
      obtain ⟨kv2, c1, c2⟩ := mk_kvs (φ := fun l => H l = none) (K := K) (H := H2) (N := N) (paired_ix (F := fun t (e : Nat × WL) => ∃ l, TU H2 t [.int (e.1 : Nat), .ref l] ∧ H l = none ∧ WAt K H2 N l e.2) (by omega : ps.length = f.length) fun i t e g1 g2 => by
        obtain ⟨l, e', g3, g4, g5, g6⟩ := hps i t g1
        rw [g2] at g3
        cases g3
        exact ⟨l, g4, g5, g6⟩)
      walk_at "vc"
      refine ⟨D, ps, kv2, rfl, SqL.of hacc, c1, fun pd hpd => ?_⟩
      have nd2 : (kv2.map (·.1)).Nodup := by
        rw [kv_keys (F := fun v row => ∃ l, v = .ref l ∧ H l = none ∧ WAt K H2 N l row) c2]
        exact List.Pairwise.map _ (fun a b hab z => hab (by injection z with z; omega)) h4
      rw [mergeK_nodup _ [] (by simpa using nd2), List.nil_append]
      have sF : Same H (upd H2 pd (.dK kv2)) := Same.trans (Same.but sH f1 bd) (Same.new hpd)
      rw [hfs] at q
      exact q pd _ sF ⟨kv2, upd_same, Paired.mapP c2 fun _ _ ⟨z1, l, z2, z0, z3⟩ => ⟨z1, l, z2, z0, z3.same (Same.new hpd)⟩⟩
theorem c_Look_split (T : Tx K mg) : Cal P w K mg base 7 d_Look_split ["self", "side", "weights", "name", "given"] [] (sp_Look_split K) :=
  Cal.of T.d_Look_split rfl rfl (fun _ _ _ _ _ _ us hl => match us, hl with | [_, _, _, _, _], _ => rfl) fun fd F => ok_Look_split T F
end
end Tn
set_option Elab.async false
set_option linter.all false
set_option maxRecDepth 100000
set_option maxHeartbeats 4000000
set_option pp.maxSteps 400
namespace Tn
open PySem PySem.Spec L2
/-! ### a point between two statements -/
def tMid (t u : TS) : TS := fun D σ H => ∃ I : L2.St → Hp → Prop, t { D with nx := I } σ H ∧ ∀ σ' H', I σ' H' → u D σ' H'
theorem pss_mid {X : Cx} {st : Stmt} {rest : List Stmt} {t u : TS} (h1 : PS X st t) (h2 : PSs X rest u) : PSs X (st :: rest) (tMid t u) := by
  refine ⟨fun pins s σ H D I h => ?_⟩
  obtain ⟨J, hJ, hu⟩ := h
  refine wpAny_execs_cons (thn (h1.run pins s σ H { D with nx := J } I hJ) fun f s1 q => ?_)
  cases f with
  | next =>
    obtain ⟨σ', H', I', q⟩ := q
    exact h2.run pins s1 σ' H' D I' (hu σ' H' q)
  | ret v => exact q
  | brk => exact q
  | cont => exact q
theorem x_mid {t u : TS} {D : Ends} {σ : L2.St} {H : Hp} (I : L2.St → Hp → Prop) (h1 : t { D with nx := I } σ H) (h2 : ∀ σ' H', I σ' H' → u D σ' H') : tMid t u D σ H := ⟨I, h1, h2⟩
/-! ### the best player: what is reckoned, all over one denominator -/
def sumW (ws : WL) : Nat := (ws.map (·.2)).sum
def chkS (ws : WL) : Bool := decide (ws.length ≤ 1000) && decide (sumW ws < 2 ^ 40)
def chkW (n : Nat) (ws : WL) : Bool := decide (ws.length ≤ 1000) && ws.all fun e => decide (okW n e)
def gainM (W0 W1 : WL) : Int := if (sumW W0 : Int) - (sumW W1 : Int) < 0 then 0 else (sumW W0 : Int) - (sumW W1 : Int)
def askL (bM : WL → WL → Nat → Option (Int × Nat)) (f0 f1 : FM) : List Nat → Int → Nat → Option (Int × Nat)
  | [], acc, left => some (acc, left)
  | a :: r, acc, left => match bM ((fget f0 a).getD []) ((fget f1 a).getD []) left with
    | none => none
    | some (m, left') => if (acc + m).natAbs < 2 ^ 50 then askL bM f0 f1 r (acc + m) left' else none
def askedM (n s0 s1 : Nat) (bM : WL → WL → Nat → Option (Int × Nat)) (W0 W1 : WL) (left : Nat) : Option (Int × Nat) :=
  if left = 0 then none else if (chkW n W0 && chkW n W1) = true then
    if (splitM n s0 W0).length < 64 then askL bM (splitM n s0 W0) (splitM n s1 W1) (srt ((splitM n s0 W0).map (·.1))) 0 (left - 1) else none
  else none
def bestM (n s0 s1 : Nat) : Nat → WL → WL → Nat → Option (Int × Nat)
  | 0, W0, W1, left => if (chkS W0 && chkS W1) = true then some (gainM W0 W1, left) else none
  | c + 1, W0, W1, left => if (chkS W0 && chkS W1) = true then
      if W0.isEmpty = true then some (gainM W0 W1, left) else match askedM n s0 s1 (bestM n s0 s1 c) W0 W1 left with
        | none => none
        | some (more, left') => some (if gainM W0 W1 < more then more else gainM W0 W1, left')
    else none
theorem gainM_b {W0 W1 : WL} (d0 : sumW W0 < 2 ^ 40) (d1 : sumW W1 < 2 ^ 40) : (gainM W0 W1).natAbs < 2 ^ 41 := by
  unfold gainM
  split <;> omega
theorem sum_acc {N : Nat} (h : N ≠ 0) : ∀ (ws : WL) (a : Int), (ws.map fun e => mkRat (e.2 : Nat) N).foldl (· + ·) (mkRat a N) = mkRat (a + (sumW ws : Nat)) N
  | [], a => by simp [sumW]
  | e :: ws, a => by
    rw [List.map_cons, List.foldl_cons, mk_add _ _ h, sum_acc h ws]
    simp only [sumW, List.map_cons, List.sum_cons, Int.natCast_add, Int.add_assoc]
theorem sum_mk {N : Nat} (h : N ≠ 0) {ws : WL} : sumR (ws.map fun e => mkRat (e.2 : Nat) N) = mkRat (sumW ws : Nat) N := by
  unfold sumR
  have := sum_acc h ws 0
  rw [mk_zero, Int.zero_add] at this
  exact this
theorem sumW_take (ws : WL) (i : Nat) : sumW (ws.take i) ≤ sumW ws := by
  have : ws = ws.take i ++ ws.drop i := (List.take_append_drop i ws).symm
  conv => rhs; rw [this]
  unfold sumW
  rw [List.map_append, List.sum_append]
  omega
theorem sm_pre {N : Nat} (h : N ≠ 0) (hN : N < 2 ^ 40) {ws : WL} (c : chkS ws = true) : ∀ i, i ≤ (ws.map fun e => mkRat (e.2 : Nat) N).length → Sm (sumR ((ws.map fun e => mkRat (e.2 : Nat) N).take i)) := by
  intro i _
  rw [← List.map_take, sum_mk h]
  have d := of_decide_eq_true (Bool.and_eq_true_iff.mp c).2
  have := sumW_take ws i
  exact sm_mk h (by rw [Int.natAbs_natCast]; omega) (by omega)
theorem sumW_mem : ∀ {ws : WL} {e : Ste × Nat}, e ∈ ws → e.2 ≤ sumW ws
  | a :: ws, e, h => by
    simp only [sumW, List.map_cons, List.sum_cons]
    rcases List.mem_cons.mp h with rfl | h
    · omega
    · have := sumW_mem h
      unfold sumW at this
      omega
theorem sm_all {N : Nat} (h : N ≠ 0) (hN : N < 2 ^ 40) {ws : WL} (c : chkS ws = true) : ∀ r ∈ ws.map (fun e => mkRat (e.2 : Nat) N), Sm r := by
  intro r hr
  obtain ⟨e, he, rfl⟩ := List.mem_map.mp hr
  have d := of_decide_eq_true (Bool.and_eq_true_iff.mp c).2
  have := sumW_mem he
  exact sm_mk h (by rw [Int.natAbs_natCast]; omega) (by omega)
section
variable {K : PySem.W.Frag} {H : Hp} {N : Nat}
theorem we_get {ts : List Addr} {ws : WL} {i : Nat} {te : Addr} (pr : Paired (WE K H N) ts ws) (h : ts[i]? = some te) : ∃ e, ws[i]? = some e ∧ WE K H N te e := by
  have hl := Paired.length pr
  have hi : i < ws.length := by
    have := (List.getElem?_eq_some_iff.mp h).1
    omega
  obtain ⟨a, h1, h2⟩ := DX.pget pr (List.getElem?_eq_getElem (l := ws) hi)
  rw [h] at h1
  cases h1
  exact ⟨_, List.getElem?_eq_getElem hi, h2⟩
theorem emp_eq {α : Type} {F : Addr → α → Prop} {ts : List Addr} {ws : List α} (pr : Paired F ts ws) : (ts.map V.ref).isEmpty = ws.isEmpty := by cases pr <;> rfl
theorem rrl_of {acc : List V} {ws : WL} (hl : acc.length = ws.length) (h : ∀ (i : Nat) y, acc[i]? = some y → ∃ e, ws[i]? = some e ∧ RR K H y (mkRat (e.2 : Nat) N)) : RRL K H acc (ws.map fun e => mkRat (e.2 : Nat) N) :=
  paired_ix (by rw [hl, List.length_map]) fun i a b h1 h2 => by
    obtain ⟨e, h3, h4⟩ := h i a h1
    rw [List.getElem?_map, h3] at h2
    cases h2
    exact h4
end
local macro_rules | `(tactic| walk_at "tz") => `(tactic| first
  | ((refine' Tz.same ?s); (case s => with_reducible assumption))
  | ((refine' Tz.but ?b ?h ?n); (case b => with_reducible assumption); (case h => walk_at "look"); (case n => (intro o v z; cases z))))
local macro_rules | `(tactic| walk_at "fz") => `(tactic| first
  | ((refine' Fz.same ?s); (case s => with_reducible assumption))
  | ((refine' Fz.but ?b ?h ?n); (case b => with_reducible assumption); (case h => walk_at "look"); (case n => first | exact nf_lst | exact nf_dK | exact nf_ext | assumption)))
local macro_rules | `(tactic| walk_at "look") => `(tactic| first
  | with_reducible assumption
  | ((with_reducible refine' Same.app ?s ?m); (case s => with_reducible assumption); (case m => walk_at "look"))
  | ((with_reducible refine' RR.fz ?z ?m); (case z => walk_at "fz"); (case m => walk_at "look"))
  | ((with_reducible refine' Rp.tz ?z ?m); (case z => walk_at "tz"); (case m => walk_at "look"))
  | ((with_reducible refine' TU.tz ?z ?m); (case z => walk_at "tz"); (case m => walk_at "look"))
  | ((with_reducible refine' RpL.tz ?z ?m); (case z => walk_at "tz"); (case m => walk_at "look"))
  | ((with_reducible refine' GM.fz ?z ?m); (case z => walk_at "fz"); (case m => walk_at "look"))
  | ((with_reducible refine' But.app' ?b ?n ?m); (case b => with_reducible assumption); (case n => first | assumption | (refine Ne.symm ?_; assumption)); (case m => walk_at "look"))
  | ((with_reducible refine' But.app ?b ?l ?d ?m); (case b => with_reducible assumption); (case m => walk_at "look"); (case l => walk_at "look"); (case d => (intro z; cases z))))
local macro_rules | `(tactic| walk_at "rp") => `(tactic| first
  | (with_reducible assumption)
  | walk_at "look"
  | exact Rp.bl _ | exact Rp.int _ | exact Rp.str _ | exact Rp.non
  | ((refine' Rp.tup ?h ?l); (case h => walk_at "look"); (case l => walk_at "rpl")))
local macro_rules | `(tactic| walk_at "rpl") => `(tactic| first
  | exact RpL.nil
  | ((refine' RpL.cons ?h ?l); (case h => walk_at "rp"); (case l => walk_at "rpl")))
local macro_rules | `(tactic| walk_at "vc") => `(tactic| repeat (first
  | with_reducible refine' x_seq ?_
  | with_reducible refine' x_ifS ?_
  | with_reducible refine' x_asg ?_
  | with_reducible refine' x_drop ?_
  | with_reducible refine' x_ret ?_
  | with_reducible refine' x_name ?_
  | with_reducible refine' x_c ?_
  | ((with_reducible refine' x_var ?h ?_); (case h => rfl))
  | with_reducible refine' x_op ?_
  | with_reducible refine' x_un ?_
  | with_reducible refine' x_tup ?_
  | with_reducible refine' x_lst ?_
  | ((with_reducible refine' x_gtup ?h ?l ?_); (case h => walk_at "look"); (case l => rfl))
  | ((with_reducible refine' x_gtup' ?h ?l ?_); (case h => walk_at "look"); (case l => rfl))
  | with_reducible refine' x_gcons ?_
  | with_reducible refine' x_gnil ?_
  | with_reducible refine' x_nil ?_
  | with_reducible refine' x_cons ?_
  | with_reducible refine' x_call ?_
  | with_reducible refine' x_meth ?_
  | ((with_reducible refine' x_methv ?h ?l ?_); (case h => walk_at "look"); (case l => first | rfl | decide +kernel))
  | with_reducible refine' x_make ?_
  | with_reducible refine' x_cb ?_
  | with_reducible refine' x_test ?_
  | with_reducible refine' x_B ?_
  | with_reducible refine' x_and ?_
  | with_reducible refine' x_or ?_
  | with_reducible refine' x_not ?_
  | with_reducible refine' x_if ?_
  | with_reducible refine' x_andV ?_
  | with_reducible refine' x_orV ?_
  | with_reducible refine' x_notV ?_
  | with_reducible refine' x_next ?_
  | with_reducible refine' x_gfldc ?_
  | with_reducible refine' x_bmF ?_
  | with_reducible refine' x_bmF0 ?_
  | ((with_reducible refine' y_tyL ?h ?_); (case h => walk_at "look"))
  | ((with_reducible refine' y_tyD ?h ?_); (case h => walk_at "look"))
  | ((with_reducible refine' y_lenL ?h ?_); (case h => walk_at "look"))
  | ((with_reducible refine' y_lenR ?h ?_); (case h => walk_at "look"))
  | with_reducible refine' x_forT ?_
  | with_reducible refine' x_forL ?_
  | with_reducible refine' x_lcT ?_
  | with_reducible refine' x_lcL ?_
  | ((with_reducible refine' y_tupleL ?h ?_); (case h => walk_at "look"); intro _ _ _ _ _)
  | ((with_reducible refine' y_tupleR ?h ?_); (case h => walk_at "look"))
  | ((with_reducible refine' y_tupleT ?h ?_); (case h => walk_at "look"))
  | with_reducible refine' x_cont ?_
  | with_reducible refine' x_dget ?_
  | with_reducible refine' x_din ?_
  | with_reducible refine' x_dput ?_
  | ((with_reducible refine' x_dnewN ?_); intro _ _ _ _ _)
  | with_reducible refine' x_nget2 ?_
  | with_reducible refine' x_nput ?_
  | with_reducible refine' x_lcN ?_
  | with_reducible refine' x_lcKF ?_
  | with_reducible refine' x_itemsN ?_
  | ((with_reducible refine' x_dnewK ?_); intro _ _ _ _ _)
  | with_reducible refine' x_forRev ?_
  | with_reducible refine' x_sl ?_
  | with_reducible refine' x_nopart ?_
  | with_reducible refine' x_part ?_
  | with_reducible refine' x_partI ?_
  | with_reducible refine' x_revL ?_
  | with_reducible refine' x_sfldc ?_
  | with_reducible refine' x_bl ?_
  | ((with_reducible refine' x_fldc ?h ?l ?_); (case h => walk_at "look"); (case l => first | rfl | decide +kernel))
  | ((with_reducible refine' x_setc ?h ?l ?_); (case h => walk_at "look"); (case l => exact Nat.le_of_ble_eq_true rfl); intro _ _ _)
  | ((with_reducible refine' y_num ?h ?_); (case h => walk_at "look"))
  | ((with_reducible refine' y_den ?h ?_); (case h => walk_at "look"))
  | with_reducible refine' y_I0 ?_
  | ((with_reducible refine' y_ixS ?h ?e ?a ?_); (case h => walk_at "look"); (case e => rfl); (case a => rfl))
  | ((with_reducible refine' y_ixI ?h ?e ?a ?_); (case h => walk_at "look"); (case e => rfl); (case a => rfl))
  | ((with_reducible refine' y_ixB ?h ?e ?a ?_); (case h => walk_at "look"); (case e => rfl); (case a => rfl))
  | ((with_reducible refine' y_ixR ?h ?e ?a ?_); (case h => walk_at "look"); (case e => rfl); (case a => rfl); intro _ _)
  | ((with_reducible refine' y_ixT ?h ?a ?_); (case h => walk_at "look"); (case a => rfl))
  | ((with_reducible refine' y_eq ?s ?_); (case s => rfl))
  | ((with_reducible refine' y_ne ?s ?_); (case s => rfl))
  | ((with_reducible refine' x_rtup ?l ?_); (case l => exact Nat.le_of_ble_eq_true rfl); intro _ _ _ _ _)
  | ((with_reducible refine' x_rlst ?l ?_); (case l => exact Nat.le_of_ble_eq_true rfl); intro _ _ _ _ _)
  | ((with_reducible refine' ite_t ?h ?_); (case h => first | with_reducible rfl | assumption | exact decide_eq_true (by omega) | decide +kernel | rfl))
  | ((with_reducible refine' ite_f ?h ?_); (case h => first | with_reducible rfl | assumption | exact decide_eq_false (by omega) | decide +kernel | rfl))))
def sp_Look_best (K : PySem.W.Frag) (c : Nat) : Sp := fun vs H Q _ => ∃ (p al wt l0 l1 : Addr) (n s0 s1 N left : Nat) (W0 W1 : WL) (g : Int) (left' : Nat), vs = [.ref p, .ref wt, .int (c : Nat)] ∧ LookAt K H p al n s0 s1 left ∧ TU H wt [.ref l0, .ref l1] ∧ WAt K H N l0 W0 ∧ WAt K H N l1 W1 ∧ 0 < n ∧ n < 60 ∧ s0 < 1000 ∧ s1 < 1000 ∧ N ≠ 0 ∧ N < 2 ^ 40 ∧
  bestM n s0 s1 c W0 W1 left = some (g, left') ∧ ∀ v r pl H', But p H H' → LookAt K H' p al n s0 s1 left' → TU H' v [r, pl] → RR K H' r (mkRat g N) → g.natAbs < 2 ^ 51 → Q (.ref v) H'
def sp_Look_asked (K : PySem.W.Frag) (c : Nat) : Sp := fun vs H Q _ => ∃ (p al wt l0 l1 : Addr) (n s0 s1 N left : Nat) (W0 W1 : WL) (g : Int) (left' : Nat), vs = [.ref p, .ref wt, .str "p", .int 0, .int ((c + 1 : Nat) : Int)] ∧ LookAt K H p al n s0 s1 left ∧ TU H wt [.ref l0, .ref l1] ∧ WAt K H N l0 W0 ∧ WAt K H N l1 W1 ∧ 0 < n ∧ n < 60 ∧ s0 < 1000 ∧ s1 < 1000 ∧ N ≠ 0 ∧ N < 2 ^ 40 ∧
  askedM n s0 s1 (bestM n s0 s1 c) W0 W1 left = some (g, left') ∧ ∀ v r pl H', But p H H' → LookAt K H' p al n s0 s1 left' → TU H' v [r, pl] → RR K H' r (mkRat g N) → g.natAbs < 2 ^ 50 → Q (.ref v) H'
section
variable {P : Program} {w : World} {K : PySem.W.Frag} {mg : Str → Option Value} {base : Heap}
theorem sc_Look_best : FnScope ["self", "weights", "calls", "gain", "player", "name", "given", "more", "other", "_", "weight"] ["self", "weights", "calls"] (defScope s_Look_best) := ⟨rfl, rfl, rfl, by decide +kernel, rfl, by decide +kernel, by decide +kernel⟩
theorem sc_Look_asked : FnScope ["self", "weights", "name", "given", "calls", "sides", "gain", "parts", "answer", "more", "player", "side"] ["self", "weights", "name", "given", "calls"] (defScope s_Look_asked) := ⟨rfl, rfl, rfl, by decide +kernel, rfl, by decide +kernel, by decide +kernel⟩
theorem ok_Look_best0 (T : Tx K mg) {fd : FuncData} (F : FnX K d_Look_best fd) : FnOk P w K mg base CX0 8 (He.fAd K d_Look_best.at_) fd ["self", "weights", "calls"] (sp_Look_best K 0) := by
  refine F.ok sc_Look_best (fun vs H Q E h => ?_) (fun cdv A outer s0 H vs Q E hr h => ?_)
  · obtain ⟨p, al, wt, l0, l1, n, s0, s1, N, left, W0, W1, g, left', rfl, _⟩ := h
    rfl
  obtain ⟨p, al, wt, l0, l1, n, s0, s1, N, left, W0, W1, g, left', rfl, hL, hwt, hW0, hW1, n0, hn, hs0, hs1, hN0, hN, hM, q⟩ := h
  refine ⟨_, PSs.nox (pss_cons (ps_set (i := 3) sc_Look_best.nd rfl (Or.inl rfl) (pe_op (op_own (c_Ratio_sub T) T.m_Ratio_sub T.self_Ratio (hr.mono (by omega))) (pe_cal (c_total T) (hr.mono (by omega)) rfl T.g_total (pa_cons (pe_lc (own := [("_", 9), ("weight", 10)]) (g := gTup K 2 (gCons (gName 9) (gCons (gName 10) gNil))) (tt := tYes) (by rfl) sc_Look_best.nd (pi_list (pe_ix ix_tupF (pv 1) pe_int (fun _ _ => rfl))) (blkOk_by (own := [("_", 9), ("weight", 10)]) (N := ["self", "weights", "calls", "gain", "player", "name", "given", "more", "other", "_", "weight"]) (sc := defScope s_Look_best) (by decide +kernel)) (fun _ _ _ _ _ => (pg_tup rfl (pgs_cons (pg_name (i := 9) sc_Look_best.nd rfl (Or.inl rfl)) (pgs_cons (pg_name (i := 10) sc_Look_best.nd rfl (Or.inl rfl)) pgs_nil)))) (fun _ _ _ _ _ => pts_nil) (fun _ _ _ _ _ => (pv 10))) pa_nil)) (pe_cal (c_total T) (hr.mono (by omega)) rfl T.g_total (pa_cons (pe_lc (own := [("_", 9), ("weight", 10)]) (g := gTup K 2 (gCons (gName 9) (gCons (gName 10) gNil))) (tt := tYes) (by rfl) sc_Look_best.nd (pi_list (pe_ix ix_tupF (pv 1) pe_int (fun _ _ => rfl))) (blkOk_by (own := [("_", 9), ("weight", 10)]) (N := ["self", "weights", "calls", "gain", "player", "name", "given", "more", "other", "_", "weight"]) (sc := defScope s_Look_best) (by decide +kernel)) (fun _ _ _ _ _ => (pg_tup rfl (pgs_cons (pg_name (i := 9) sc_Look_best.nd rfl (Or.inl rfl)) (pgs_cons (pg_name (i := 10) sc_Look_best.nd rfl (Or.inl rfl)) pgs_nil)))) (fun _ _ _ _ _ => pts_nil) (fun _ _ _ _ _ => (pv 10))) pa_nil))))
      (pss_cons (ps_set (i := 4) sc_Look_best.nd rfl (Or.inl rfl) (pe_tupF (pa_cons pe_str (pa_cons pe_bl pa_nil))))
      (pss_mid (ps_if (pt_val (pe_metc (c_Ratio_below T) (pv 3) T.cl_Ratio T.m_Ratio_below (hr.mono (by omega)) (pa_cons (pe_mkc (c_Ratio_init1 T) T.mk_Ratio (hr.mono (by omega)) rfl T.g_Ratio (pa_cons pe_int pa_nil)) pa_nil))) (pss_cons (ps_set (i := 3) sc_Look_best.nd rfl (Or.inl rfl) (pe_mkc (c_Ratio_init1 T) T.mk_Ratio (hr.mono (by omega)) rfl T.g_Ratio (pa_cons pe_int pa_nil)))
      (pss_one (ps_set (i := 4) sc_Look_best.nd rfl (Or.inl rfl) (pe_tupF (pa_cons pe_str (pa_cons pe_bl pa_nil)))))) pss_nil)
      (pss_cons (ps_if (PW.pt (pw_or (pt_cmpR op_eq (pv 2) pe_int (nomark _)) (pw_or1 (pt_not (pt_truth (pe_ix ix_tupF (pv 1) pe_int (fun _ _ => rfl)) (by intro _; rfl)))))) (pss_one (ps_ret (pe_tupF (pa_cons (pv 3) (pa_cons (pv 4) pa_nil))))) pss_nil)
      pss_never)))), ?_⟩
  unfold bestM at hM
  split at hM
  case isFalse => cases hM
  rename_i hc
  obtain ⟨c0, c1⟩ := Bool.and_eq_true_iff.mp hc
  cases hM
  have c0l := of_decide_eq_true (Bool.and_eq_true_iff.mp c0).1
  have c1l := of_decide_eq_true (Bool.and_eq_true_iff.mp c1).1
  obtain ⟨dx, rt, r0, r1, t, G1, G2, G3, G4, G5, G6⟩ := id hL
  walk_at "vc"
  obtain ⟨ts0, hl0, p0⟩ := id hW0
  obtain ⟨ts1, hl1, p1⟩ := id hW1
  have len0 := Paired.length p0
  have len1 := Paired.length p1
  refine y_lcL (fun D i v H' => ∃ e, W0[i]? = some e ∧ RR K H' v (mkRat (e.2 : Nat) N)) (fun D ys i v H H' hD bt ⟨e, g1, g2⟩ => ⟨e, g1, g2.fz (Fz.but bt hD nf_lst)⟩) hl0 (by rw [List.length_map]; omega) (fun D i x' H' acc hi hD s1' hacc Q' q' => ?_) (mg_tup (mg_cons mg_name (mg_cons mg_name mg_nil))) fun D1 H1 acc1 hD1 s1' hacc1 hla1 hr1 => ?_
  · rw [List.getElem?_map] at hi
    obtain ⟨te, hte, rfl⟩ := Option.map_eq_some_iff.mp hi
    obtain ⟨e, he, sv, rr, k1, k2, k3⟩ := we_get p0 hte
    have k1' := k1.same s1'
    walk_at "vc"
    refine ⟨rfl, ?_⟩
    walk_at "vc"
    exact q' _ _ (fun _ _ e => e) ⟨e, he, k3.same s1'⟩
  have rl1 : RRL K H1 acc1 (W0.map fun e => mkRat (e.2 : Nat) N) := rrl_of (by rw [hla1, List.length_map, len0]) hr1
  walk_at "vc"
  refine ⟨D1, acc1, _, rfl, hacc1, rl1, sm_pre hN0 hN c0, sm_all hN0 hN c0, fun v2 H2 s2 h2 => ?_⟩
  rw [sum_mk hN0] at h2
  have s02 : Same H H2 := s1'.trans s2
  have hwt2 := hwt.same s02
  walk_at "vc"
  refine y_lcL (fun D i v H' => ∃ e, W1[i]? = some e ∧ RR K H' v (mkRat (e.2 : Nat) N)) (fun D ys i v H H' hD bt ⟨e, g1, g2⟩ => ⟨e, g1, g2.fz (Fz.but bt hD nf_lst)⟩) (s02 _ _ hl1) (by rw [List.length_map]; omega) (fun D i x' H' acc hi hD s3 hacc Q' q' => ?_) (mg_tup (mg_cons mg_name (mg_cons mg_name mg_nil))) fun D3 H3 acc3 hD3 s3 hacc3 hla3 hr3 => ?_
  · rw [List.getElem?_map] at hi
    obtain ⟨te, hte, rfl⟩ := Option.map_eq_some_iff.mp hi
    obtain ⟨e, he, sv, rr, k1, k2, k3⟩ := we_get p1 hte
    have k1' := (k1.same s02).same s3
    walk_at "vc"
    refine ⟨rfl, ?_⟩
    walk_at "vc"
    exact q' _ _ (fun _ _ e => e) ⟨e, he, (k3.same s02).same s3⟩
  have rl3 : RRL K H3 acc3 (W1.map fun e => mkRat (e.2 : Nat) N) := rrl_of (by rw [hla3, List.length_map, len1]) hr3
  walk_at "vc"
  refine ⟨D3, acc3, _, rfl, hacc3, rl3, sm_pre hN0 hN c1, sm_all hN0 hN c1, fun v4 H4 s4 h4 => ?_⟩
  rw [sum_mk hN0] at h4
  have s24 : Same H2 H4 := s3.trans s4
  have b0 := (Bool.and_eq_true_iff.mp c0)
  have b1 := (Bool.and_eq_true_iff.mp c1)
  have d0 := of_decide_eq_true b0.2
  have d1 := of_decide_eq_true b1.2
  walk_at "vc"
  refine y_rop (h2.same s24) h4 (sm_mk hN0 (by rw [Int.natAbs_natCast]; omega) (by omega)) (sm_mk hN0 (by rw [Int.natAbs_natCast]; omega) (by omega)) fun v5 H5 s5 h5 => ?_
  have h5 : RR K H5 v5 (mkRat ((sumW W0 : Int) - (sumW W1 : Int)) N) := by
    have := h5
    rwa [mk_sub _ _ hN0] at this
  have s05 : Same H H5 := (s02.trans s24).trans s5
  generalize hdd : ((sumW W0 : Int) - (sumW W1 : Int)) = dd at h5
  have bdd : dd.natAbs < 2 ^ 41 := by omega
  walk_at "vc"
  rename_i tp6 H6 f6 s6 t6
  have s06 : Same H H6 := s05.trans s6
  obtain ⟨pv5, dx5, rfl, h5r⟩ := id (h5.same s6)
  walk_at "vc"
  refine x_mid (fun σ' H' => ∃ vg pl, σ' = (((L2.start ["self", "weights", "calls", "gain", "player", "name", "given", "more", "other", "_", "weight"] [.ref p, .ref wt, .int (0 : Nat)]).set 3 (some vg)).set 4 (some pl)) ∧ Same H H' ∧ RR K H' vg (mkRat (gainM W0 W1) N)) ?mida ?midb
  case mida =>
    walk_at "vc"
    refine y_mkR' (r := 0) (by decide) (by decide) (by decide) (by decide +kernel) fun v7 H7 s7 h7 => ?_
    have s07 : Same H H7 := s06.trans s7
    have h7r := s7 _ _ h5r
    walk_at "vc"
    refine ⟨.ref pv5, v7, mkRat dd N, 0, rfl, (h5.same s6).same s7, h7, sm_mk hN0 (by omega) (by omega), by decide +kernel, ?_⟩
    have elt : decide (mkRat dd N < 0) = decide (dd < 0) := by
      rw [decide_eq_decide, ← mk_zero (N := N)]
      exact mk_lt hN0
    rw [elt]
    walk_at "vc"
    refine ite_c (fun hlt => ?_) (fun hge => ?_)
    · have hlt := of_decide_eq_true hlt
      walk_at "vc"
      refine y_mkR' (r := 0) (by decide) (by decide) (by decide) (by decide +kernel) fun v8 H8 s8 h8 => ?_
      walk_at "vc"
      rename_i tp9 H9 f9 s9 t9
      have eg : gainM W0 W1 = 0 := by
        unfold gainM
        rw [hdd, if_pos hlt]
      refine ⟨_, _, rfl, (s07.trans s8).trans s9, ?_⟩
      rw [eg, mk_zero]
      exact h8.same s9
    · have hge := of_decide_eq_false hge
      have eg : gainM W0 W1 = dd := by
        unfold gainM
        rw [hdd, if_neg hge]
      walk_at "vc"
      refine ⟨_, _, rfl, s07, ?_⟩
      rw [eg]
      exact (h5.same s6).same s7
  rintro σg Hg ⟨vg, pl9, rfl, sHg, hvg⟩

  walk_at "vc"
  obtain ⟨pg, dxg, rfl, hgr⟩ := id hvg
  walk_at "vc"
  rename_i tp9 H9 f9 s9 t9
  refine q tp9 _ pl9 H9 (fun c o _ e => s9 _ _ (sHg c o e)) ((hL.same sHg).same s9) t9 (hvg.same s9) (by have := gainM_b (W0 := W0) (W1 := W1) d0 d1; omega)
theorem ok_Look_bestS (T : Tx K mg) {c : Nat} (ca : Cal P w K mg base (2 * c + 9) d_Look_asked ["self", "weights", "name", "given", "calls"] [] (sp_Look_asked K c)) {fd : FuncData} (F : FnX K d_Look_best fd) :
    FnOk P w K mg base CX0 (2 * c + 10) (He.fAd K d_Look_best.at_) fd ["self", "weights", "calls"] (sp_Look_best K (c + 1)) := by
  refine F.ok sc_Look_best (fun vs H Q E h => ?_) (fun cdv A outer s0 H vs Q E hr h => ?_)
  · obtain ⟨p, al, wt, l0, l1, n, s0, s1, N, left, W0, W1, g, left', rfl, _⟩ := h
    rfl
  obtain ⟨p, al, wt, l0, l1, n, s0, s1, N, left, W0, W1, g, left', rfl, hL, hwt, hW0, hW1, n0, hn, hs0, hs1, hN0, hN, hM, q⟩ := h
  refine ⟨_, PSs.nox (pss_cons (ps_set (i := 3) sc_Look_best.nd rfl (Or.inl rfl) (pe_op (op_own (c_Ratio_sub T) T.m_Ratio_sub T.self_Ratio (hr.mono (by omega))) (pe_cal (c_total T) (hr.mono (by omega)) rfl T.g_total (pa_cons (pe_lc (own := [("_", 9), ("weight", 10)]) (g := gTup K 2 (gCons (gName 9) (gCons (gName 10) gNil))) (tt := tYes) (by rfl) sc_Look_best.nd (pi_list (pe_ix ix_tupF (pv 1) pe_int (fun _ _ => rfl))) (blkOk_by (own := [("_", 9), ("weight", 10)]) (N := ["self", "weights", "calls", "gain", "player", "name", "given", "more", "other", "_", "weight"]) (sc := defScope s_Look_best) (by decide +kernel)) (fun _ _ _ _ _ => (pg_tup rfl (pgs_cons (pg_name (i := 9) sc_Look_best.nd rfl (Or.inl rfl)) (pgs_cons (pg_name (i := 10) sc_Look_best.nd rfl (Or.inl rfl)) pgs_nil)))) (fun _ _ _ _ _ => pts_nil) (fun _ _ _ _ _ => (pv 10))) pa_nil)) (pe_cal (c_total T) (hr.mono (by omega)) rfl T.g_total (pa_cons (pe_lc (own := [("_", 9), ("weight", 10)]) (g := gTup K 2 (gCons (gName 9) (gCons (gName 10) gNil))) (tt := tYes) (by rfl) sc_Look_best.nd (pi_list (pe_ix ix_tupF (pv 1) pe_int (fun _ _ => rfl))) (blkOk_by (own := [("_", 9), ("weight", 10)]) (N := ["self", "weights", "calls", "gain", "player", "name", "given", "more", "other", "_", "weight"]) (sc := defScope s_Look_best) (by decide +kernel)) (fun _ _ _ _ _ => (pg_tup rfl (pgs_cons (pg_name (i := 9) sc_Look_best.nd rfl (Or.inl rfl)) (pgs_cons (pg_name (i := 10) sc_Look_best.nd rfl (Or.inl rfl)) pgs_nil)))) (fun _ _ _ _ _ => pts_nil) (fun _ _ _ _ _ => (pv 10))) pa_nil))))
      (pss_cons (ps_set (i := 4) sc_Look_best.nd rfl (Or.inl rfl) (pe_tupF (pa_cons pe_str (pa_cons pe_bl pa_nil))))
      (pss_mid (ps_if (pt_val (pe_metc (c_Ratio_below T) (pv 3) T.cl_Ratio T.m_Ratio_below (hr.mono (by omega)) (pa_cons (pe_mkc (c_Ratio_init1 T) T.mk_Ratio (hr.mono (by omega)) rfl T.g_Ratio (pa_cons pe_int pa_nil)) pa_nil))) (pss_cons (ps_set (i := 3) sc_Look_best.nd rfl (Or.inl rfl) (pe_mkc (c_Ratio_init1 T) T.mk_Ratio (hr.mono (by omega)) rfl T.g_Ratio (pa_cons pe_int pa_nil)))
      (pss_one (ps_set (i := 4) sc_Look_best.nd rfl (Or.inl rfl) (pe_tupF (pa_cons pe_str (pa_cons pe_bl pa_nil)))))) pss_nil)
      (pss_cons (ps_if (PW.pt (pw_or (pt_cmpR op_eq (pv 2) pe_int (nomark _)) (pw_or1 (pt_not (pt_truth (pe_ix ix_tupF (pv 1) pe_int (fun _ _ => rfl)) (by intro _; rfl)))))) (pss_one (ps_ret (pe_tupF (pa_cons (pv 3) (pa_cons (pv 4) pa_nil))))) pss_nil)
      (pss_cons (ps_for PassesOwn.never rfl (pi_list (pe_fldc T.cl_Look T.n_Look_asks (pv 0))) (pg_tup rfl (pgs_cons (pg_name (i := 5) sc_Look_best.nd rfl (Or.inl rfl)) (pgs_cons (pg_name (i := 6) sc_Look_best.nd rfl (Or.inl rfl)) pgs_nil))) (pss_cons (ps_asg (pe_metc ca (pv 0) T.cl_Look T.m_Look_asked (hr.mono (by omega)) (pa_cons (pv 1) (pa_cons (pv 5) (pa_cons (pv 6) (pa_cons (pv 2) pa_nil))))) (pg_tup rfl (pgs_cons (pg_name (i := 7) sc_Look_best.nd rfl (Or.inl rfl)) (pgs_cons (pg_name (i := 8) sc_Look_best.nd rfl (Or.inl rfl)) pgs_nil))))
      (pss_one (ps_if (pt_val (pe_metc (c_Ratio_below T) (pv 3) T.cl_Ratio T.m_Ratio_below (hr.mono (by omega)) (pa_cons (pv 7) pa_nil))) (pss_cons (ps_set (i := 3) sc_Look_best.nd rfl (Or.inl rfl) (pv 7))
      (pss_one (ps_set (i := 4) sc_Look_best.nd rfl (Or.inl rfl) (pv 8)))) pss_nil))))
      (pss_one (ps_ret (pe_tupF (pa_cons (pv 3) (pa_cons (pv 4) pa_nil)))))))))), ?_⟩
  unfold bestM at hM
  split at hM
  case isFalse => cases hM
  rename_i hc
  obtain ⟨c0, c1⟩ := Bool.and_eq_true_iff.mp hc
  have c0l := of_decide_eq_true (Bool.and_eq_true_iff.mp c0).1
  have c1l := of_decide_eq_true (Bool.and_eq_true_iff.mp c1).1
  obtain ⟨dx, rt, r0, r1, t, G1, G2, G3, G4, G5, G6⟩ := id hL
  walk_at "vc"
  obtain ⟨ts0, hl0, p0⟩ := id hW0
  obtain ⟨ts1, hl1, p1⟩ := id hW1
  have len0 := Paired.length p0
  have len1 := Paired.length p1
  refine y_lcL (fun D i v H' => ∃ e, W0[i]? = some e ∧ RR K H' v (mkRat (e.2 : Nat) N)) (fun D ys i v H H' hD bt ⟨e, g1, g2⟩ => ⟨e, g1, g2.fz (Fz.but bt hD nf_lst)⟩) hl0 (by rw [List.length_map]; omega) (fun D i x' H' acc hi hD s1' hacc Q' q' => ?_) (mg_tup (mg_cons mg_name (mg_cons mg_name mg_nil))) fun D1 H1 acc1 hD1 s1' hacc1 hla1 hr1 => ?_
  · rw [List.getElem?_map] at hi
    obtain ⟨te, hte, rfl⟩ := Option.map_eq_some_iff.mp hi
    obtain ⟨e, he, sv, rr, k1, k2, k3⟩ := we_get p0 hte
    have k1' := k1.same s1'
    walk_at "vc"
    refine ⟨rfl, ?_⟩
    walk_at "vc"
    exact q' _ _ (fun _ _ e => e) ⟨e, he, k3.same s1'⟩
  have rl1 : RRL K H1 acc1 (W0.map fun e => mkRat (e.2 : Nat) N) := rrl_of (by rw [hla1, List.length_map, len0]) hr1
  walk_at "vc"
  refine ⟨D1, acc1, _, rfl, hacc1, rl1, sm_pre hN0 hN c0, sm_all hN0 hN c0, fun v2 H2 s2 h2 => ?_⟩
  rw [sum_mk hN0] at h2
  have s02 : Same H H2 := s1'.trans s2
  have hwt2 := hwt.same s02
  walk_at "vc"
  refine y_lcL (fun D i v H' => ∃ e, W1[i]? = some e ∧ RR K H' v (mkRat (e.2 : Nat) N)) (fun D ys i v H H' hD bt ⟨e, g1, g2⟩ => ⟨e, g1, g2.fz (Fz.but bt hD nf_lst)⟩) (s02 _ _ hl1) (by rw [List.length_map]; omega) (fun D i x' H' acc hi hD s3 hacc Q' q' => ?_) (mg_tup (mg_cons mg_name (mg_cons mg_name mg_nil))) fun D3 H3 acc3 hD3 s3 hacc3 hla3 hr3 => ?_
  · rw [List.getElem?_map] at hi
    obtain ⟨te, hte, rfl⟩ := Option.map_eq_some_iff.mp hi
    obtain ⟨e, he, sv, rr, k1, k2, k3⟩ := we_get p1 hte
    have k1' := (k1.same s02).same s3
    walk_at "vc"
    refine ⟨rfl, ?_⟩
    walk_at "vc"
    exact q' _ _ (fun _ _ e => e) ⟨e, he, (k3.same s02).same s3⟩
  have rl3 : RRL K H3 acc3 (W1.map fun e => mkRat (e.2 : Nat) N) := rrl_of (by rw [hla3, List.length_map, len1]) hr3
  walk_at "vc"
  refine ⟨D3, acc3, _, rfl, hacc3, rl3, sm_pre hN0 hN c1, sm_all hN0 hN c1, fun v4 H4 s4 h4 => ?_⟩
  rw [sum_mk hN0] at h4
  have s24 : Same H2 H4 := s3.trans s4
  have b0 := (Bool.and_eq_true_iff.mp c0)
  have b1 := (Bool.and_eq_true_iff.mp c1)
  have d0 := of_decide_eq_true b0.2
  have d1 := of_decide_eq_true b1.2
  walk_at "vc"
  refine y_rop (h2.same s24) h4 (sm_mk hN0 (by rw [Int.natAbs_natCast]; omega) (by omega)) (sm_mk hN0 (by rw [Int.natAbs_natCast]; omega) (by omega)) fun v5 H5 s5 h5 => ?_
  have h5 : RR K H5 v5 (mkRat ((sumW W0 : Int) - (sumW W1 : Int)) N) := by
    have := h5
    rwa [mk_sub _ _ hN0] at this
  have s05 : Same H H5 := (s02.trans s24).trans s5
  generalize hdd : ((sumW W0 : Int) - (sumW W1 : Int)) = dd at h5
  have bdd : dd.natAbs < 2 ^ 41 := by omega
  walk_at "vc"
  rename_i tp6 H6 f6 s6 t6
  have s06 : Same H H6 := s05.trans s6
  obtain ⟨pv5, dx5, rfl, h5r⟩ := id (h5.same s6)
  walk_at "vc"
  refine x_mid (fun σ' H' => ∃ vg pl, σ' = (((L2.start ["self", "weights", "calls", "gain", "player", "name", "given", "more", "other", "_", "weight"] [.ref p, .ref wt, .int ((c + 1) : Nat)]).set 3 (some vg)).set 4 (some pl)) ∧ Same H H' ∧ RR K H' vg (mkRat (gainM W0 W1) N)) ?mida ?midb
  case mida =>
    walk_at "vc"
    refine y_mkR' (r := 0) (by decide) (by decide) (by decide) (by decide +kernel) fun v7 H7 s7 h7 => ?_
    have s07 : Same H H7 := s06.trans s7
    have h7r := s7 _ _ h5r
    walk_at "vc"
    refine ⟨.ref pv5, v7, mkRat dd N, 0, rfl, (h5.same s6).same s7, h7, sm_mk hN0 (by omega) (by omega), by decide +kernel, ?_⟩
    have elt : decide (mkRat dd N < 0) = decide (dd < 0) := by
      rw [decide_eq_decide, ← mk_zero (N := N)]
      exact mk_lt hN0
    rw [elt]
    walk_at "vc"
    refine ite_c (fun hlt => ?_) (fun hge => ?_)
    · have hlt := of_decide_eq_true hlt
      walk_at "vc"
      refine y_mkR' (r := 0) (by decide) (by decide) (by decide) (by decide +kernel) fun v8 H8 s8 h8 => ?_
      walk_at "vc"
      rename_i tp9 H9 f9 s9 t9
      have eg : gainM W0 W1 = 0 := by
        unfold gainM
        rw [hdd, if_pos hlt]
      refine ⟨_, _, rfl, (s07.trans s8).trans s9, ?_⟩
      rw [eg, mk_zero]
      exact h8.same s9
    · have hge := of_decide_eq_false hge
      have eg : gainM W0 W1 = dd := by
        unfold gainM
        rw [hdd, if_neg hge]
      walk_at "vc"
      refine ⟨_, _, rfl, s07, ?_⟩
      rw [eg]
      exact (h5.same s6).same s7
  rintro σg Hg ⟨vg, pl9, rfl, sHg, hvg⟩

  have hwtg := hwt.same sHg
  obtain ⟨ts0', hl0', p0'⟩ := id hW0
  walk_at "vc"
  obtain ⟨pg, dxg, rfl, hgr⟩ := id hvg
  cases hemp : W0.isEmpty with
  | true =>
    rw [hemp, if_pos rfl] at hM
    cases hM
    refine ⟨false, .inl ⟨_, SqL.of (sHg _ _ hl0'), by rw [emp_eq p0', hemp]; rfl⟩, ?_⟩
    refine ite_t rfl ?_
    walk_at "vc"
    rename_i tp9 H9 f9 s9 t9
    refine q tp9 _ pl9 H9 (fun c o _ e => s9 _ _ (sHg c o e)) ((hL.same sHg).same s9) t9 (hvg.same s9) (by have := gainM_b (W0 := W0) (W1 := W1) d0 d1; omega)
  | false =>
    rw [hemp, if_neg (by decide)] at hM
    refine ⟨true, .inl ⟨_, SqL.of (sHg _ _ hl0'), by rw [emp_eq p0', hemp]; rfl⟩, ?_⟩
    refine ite_f rfl ?_
    have G1' := sHg _ _ G1
    walk_at "vc"
    cases hask : askedM n s0 s1 (bestM n s0 s1 c) W0 W1 left with
    | none =>
      rw [hask] at hM
      cases hM
    | some ml =>
    obtain ⟨more, lf⟩ := ml
    rw [hask] at hM
    have hM : some (if gainM W0 W1 < more then more else gainM W0 W1, lf) = some (g, left') := hM
    cases hM
    have gb := gainM_b (W0 := W0) (W1 := W1) d0 d1
    have G6' := G6.same sHg
    have hwtg' := hwtg
    refine y_forL (sHg _ _ G5) (fun i σ' H' => (i = 0 ∧ H' = Hg ∧ σ' = [some (.ref p), some (.ref wt), some (.int ((c + 1 : Nat) : Int)), some (.ref pg), some pl9, none, none, none, none, none, none]) ∨ (i = 1 ∧ But p Hg H' ∧ LookAt K H' p al n s0 s1 left' ∧ (if gainM W0 W1 < more then more else gainM W0 W1).natAbs < 2 ^ 51 ∧ ∃ vg pl z5 z6 z7 z8, σ' = [some (.ref p), some (.ref wt), some (.int ((c + 1 : Nat) : Int)), some vg, some pl, z5, z6, z7, z8, none, none] ∧ RR K H' vg (mkRat (if gainM W0 W1 < more then more else gainM W0 W1) N))) (.inl ⟨rfl, rfl, rfl⟩) (fun i σ' H' _ z => ?_) ?_ ?_
    · rcases z with ⟨_, rfl, _⟩ | ⟨_, b, _⟩
      · exact sHg _ _ G5
      · exact b _ _ (ne_of (sHg _ _ G5) G1' fun z => by cases z) (sHg _ _ G5)
    · rintro i x σ' H' hi (⟨rfl, rfl, rfl⟩ | ⟨rfl, _⟩)
      · cases hi
        walk_at "vc"
        refine ⟨p, al, wt, l0, l1, n, s0, s1, N, left, W0, W1, more, left', rfl, hL.same sHg, hwtg, hW0.same sHg, hW1.same sHg, n0, hn, hs0, hs1, hN0, hN, hask, fun v r pl H2 bp hL2 tu2 hr2 hb => ?_⟩
        have hvg2 := hvg.fz (Fz.but bp G1' T.nf_Look)
        have hgr2 : H2 pg = _ := bp _ _ (ne_of hgr G1' fun z => by injection z with z1 z2 z3; exact T.nf_Look (K := K) (dx := dx) (fs := []) (.inl z1.symm)) hgr
        walk_at "vc"
        refine ⟨.ref pg, r, _, _, rfl, hvg2, hr2, sm_mk hN0 (by omega) (by omega), sm_mk hN0 (by omega) (by omega), ?_⟩
        have elt : decide (mkRat (gainM W0 W1) N < mkRat more N) = decide (gainM W0 W1 < more) := by
          rw [decide_eq_decide]
          exact mk_lt hN0
        rw [elt]
        walk_at "vc"
        refine ite_c (fun hlt => ?_) (fun hge => ?_)
        · have hlt := of_decide_eq_true hlt
          walk_at "vc"
          refine .inr ⟨rfl, bp, hL2, by rw [if_pos hlt]; omega, _, _, _, _, _, _, rfl, ?_⟩
          rw [if_pos hlt]
          exact hr2
        · have hge := of_decide_eq_false hge
          walk_at "vc"
          refine .inr ⟨rfl, bp, hL2, by rw [if_neg hge]; omega, _, _, _, _, _, _, rfl, ?_⟩
          rw [if_neg hge]
          exact hvg2
      · cases hi
    · rintro σ' H' (⟨h0, _⟩ | ⟨_, b, hL2, hb, vg, pl, z5, z6, z7, z8, rfl, hr2⟩)
      · cases h0
      walk_at "vc"
      rename_i tp9 H9 f9 s9 t9
      exact q tp9 _ pl H9 (fun c o hc e => s9 _ _ (b c o hc (sHg c o e))) (hL2.same s9) t9 (hr2.same s9) hb
end
end Tn
set_option Elab.async false
set_option linter.all false
set_option maxRecDepth 100000
set_option maxHeartbeats 4000000
set_option pp.maxSteps 400
namespace Tn
open PySem PySem.Spec L2
section
variable {K : PySem.W.Frag} {H H' : Hp} {N n : Nat} {φ ψ : Addr → Prop}
theorem SideAt.butD {d D : Addr} {f : FM} {ys : List V} (bt : But D H H') (hD : H D = some (.lst ys)) (h : SideAt (· ≠ D) K H N d f) : SideAt (· ≠ D) K H' N d f := by
  obtain ⟨kvs, h1, h2⟩ := h
  exact ⟨kvs, bt _ _ (ne_of h1 hD fun z => by cases z) h1, Paired.mapP h2 fun _ _ ⟨a, l, b, c, e⟩ => ⟨a, l, b, c, e.but bt hD c⟩⟩
theorem SideAt.same {d : Addr} {f : FM} (s : Same H H') (h : SideAt φ K H N d f) : SideAt φ K H' N d f := by
  obtain ⟨kvs, h1, h2⟩ := h
  exact ⟨kvs, s _ _ h1, Paired.mapP h2 fun _ _ ⟨a, l, b, c, e⟩ => ⟨a, l, b, c, e.same s⟩⟩
theorem SideAt.ne {d lp : Addr} {f : FM} (hf : H lp = none) (h : SideAt φ K H N d f) : SideAt (· ≠ lp) K H N d f := by
  obtain ⟨kvs, h1, h2⟩ := h
  refine ⟨kvs, h1, Paired.mapP h2 fun _ _ ⟨a, l, b, c, e⟩ => ⟨a, l, b, fun z => ?_, e⟩⟩
  obtain ⟨ts, e1, _⟩ := e
  rw [z, hf] at e1
  cases e1
theorem SideAt.imp {d : Addr} {f : FM} (i : ∀ l, φ l → ψ l) (h : SideAt φ K H N d f) : SideAt ψ K H N d f := by
  obtain ⟨kvs, h1, h2⟩ := h
  exact ⟨kvs, h1, Paired.mapP h2 fun _ _ ⟨a, l, b, c, e⟩ => ⟨a, l, b, i l c, e⟩⟩
theorem y_dgetR {H : Hp} {a : Addr} {kvs : List (Key × V)} {j : Int} {v : V} {R : V → Prop} (h : H a = some (.dK kvs)) (l : valV kvs (Sum.inl j) = some v) (q : R v) : ∃ b w, V.ref a = .ref b ∧ DGet H b (.int j) (some w) ∧ R w := ⟨a, v, rfl, l ▸ DGet.k (k := Sum.inl j) h, q⟩
theorem x_dget2 {td ty tx : TE} {σ : L2.St} {H : Hp} {Q : VK} (q : td σ H fun x H1 => ∃ a, x = .ref a ∧ IsD H1 a ∧ ty σ H1 fun y H2 => tx σ H2 fun z H3 => ∃ o, DGet H3 a y o ∧ Q (o.getD z) H3) : tDGet2 td ty tx σ H Q := q
/-- all stays but the look and the list of parts -/
def B2 (p lp : Addr) (H H' : Hp) : Prop := ∀ c o, c ≠ p → c ≠ lp → H c = some o → H' c = some o
theorem B2.fz {mg : Str → Option Value} (T : Tx K mg) {p lp dx : Addr} {fs : List (Str × V)} {xs : List V} (b : B2 p lp H H') (hp : H p = some (.ins (He.ga K "Look") dx fs)) (hl : H lp = some (.lst xs)) : Fz K H H' := fun c o f e =>
  b c o (ne_of e hp fun z => T.nf_Look (z ▸ f)) (ne_of e hl fun z => nf_lst (z ▸ f)) e
theorem SideAt.b2 {mg : Str → Option Value} (T : Tx K mg) {p lp dx d : Addr} {f : FM} {fs : List (Str × V)} {xs : List V} (b : B2 p lp H H') (hp : H p = some (.ins (He.ga K "Look") dx fs)) (hl : H lp = some (.lst xs)) (h : SideAt (· ≠ lp) K H N d f) : SideAt (· ≠ lp) K H' N d f := by
  obtain ⟨kvs, h1, h2⟩ := h
  have z := b.fz T hp hl
  refine ⟨kvs, b _ _ (ne_of h1 hp fun z => by cases z) (ne_of h1 hl fun z => by cases z) h1, Paired.mapP h2 fun _ _ ⟨a, l, b', c, ts, e1, e2⟩ => ⟨a, l, b', c, ts, b _ _ (ne_of e1 hp fun z => by cases z) c e1, Paired.mapP e2 fun _ _ q => q.fz z⟩⟩
theorem side_get {kvs : List (Key × V)} {f : FM} (pr : Paired (fun (kv : Key × V) (e : Nat × WL) => kv.1 = Sum.inl (e.1 : Int) ∧ ∃ l, kv.2 = .ref l ∧ φ l ∧ WAt K H N l e.2) kvs f) (a : Nat) :
    (fget f a = none ∧ valV kvs (Sum.inl (a : Int)) = none) ∨ ∃ row l, fget f a = some row ∧ valV kvs (Sum.inl (a : Int)) = some (.ref l) ∧ φ l ∧ WAt K H N l row := by
  induction pr with
  | nil => exact .inl ⟨rfl, rfl⟩
  | @cons kv e es rs hq _ ih =>
    obtain ⟨q1, l, q2, q3, q4⟩ := hq
    have hi : kv.1 = Sum.inl (a : Int) ↔ e.1 = a := by
      rw [q1]
      exact keyN
    unfold fget at ih ⊢
    by_cases z : e.1 = a
    · refine .inr ⟨e.2, l, ?_, ?_, q3, q4⟩
      · simp [List.find?_cons, z]
      · rw [valV_pos (hi.mpr z), q2]
    · rw [valV_neg (fun q => z (hi.mp q))]
      simpa [List.find?_cons, z] using ih
theorem fget_mem {f : FM} {a : Nat} (h : a ∈ f.map (·.1)) : fget f a ≠ none := by
  obtain ⟨e, he, rfl⟩ := List.mem_map.mp h
  unfold fget
  rw [Ne, Option.map_eq_none_iff, List.find?_eq_none]
  intro z
  exact z e he (by simp)
theorem chkW_ok {ws : WL} (h : chkW n ws = true) : ws.length ≤ 1000 ∧ ∀ e ∈ ws, okW n e := by
  obtain ⟨h1, h2⟩ := Bool.and_eq_true_iff.mp h
  exact ⟨of_decide_eq_true h1, fun e he => of_decide_eq_true (List.all_eq_true.mp h2 e he)⟩
end
local macro_rules | `(tactic| walk_at "tz") => `(tactic| first
  | ((refine' Tz.same ?s); (case s => with_reducible assumption))
  | ((refine' Tz.but ?b ?h ?n); (case b => with_reducible assumption); (case h => walk_at "look"); (case n => (intro o v z; cases z))))
local macro_rules | `(tactic| walk_at "fz") => `(tactic| first
  | ((refine' Fz.same ?s); (case s => with_reducible assumption))
  | ((refine' Fz.but ?b ?h ?n); (case b => with_reducible assumption); (case h => walk_at "look"); (case n => first | exact nf_lst | exact nf_dK | exact nf_ext | assumption)))
local macro_rules | `(tactic| walk_at "look") => `(tactic| first
  | with_reducible assumption
  | ((with_reducible refine' Same.app ?s ?m); (case s => with_reducible assumption); (case m => walk_at "look"))
  | ((with_reducible refine' RR.fz ?z ?m); (case z => walk_at "fz"); (case m => walk_at "look"))
  | ((with_reducible refine' Rp.tz ?z ?m); (case z => walk_at "tz"); (case m => walk_at "look"))
  | ((with_reducible refine' TU.tz ?z ?m); (case z => walk_at "tz"); (case m => walk_at "look"))
  | ((with_reducible refine' RpL.tz ?z ?m); (case z => walk_at "tz"); (case m => walk_at "look"))
  | ((with_reducible refine' GM.fz ?z ?m); (case z => walk_at "fz"); (case m => walk_at "look"))
  | ((with_reducible refine' But.app' ?b ?n ?m); (case b => with_reducible assumption); (case n => first | assumption | (refine Ne.symm ?_; assumption)); (case m => walk_at "look"))
  | ((with_reducible refine' But.app ?b ?l ?d ?m); (case b => with_reducible assumption); (case m => walk_at "look"); (case l => walk_at "look"); (case d => (intro z; cases z))))
local macro_rules | `(tactic| walk_at "rp") => `(tactic| first
  | (with_reducible assumption)
  | walk_at "look"
  | exact Rp.bl _ | exact Rp.int _ | exact Rp.str _ | exact Rp.non
  | ((refine' Rp.tup ?h ?l); (case h => walk_at "look"); (case l => walk_at "rpl")))
local macro_rules | `(tactic| walk_at "rpl") => `(tactic| first
  | exact RpL.nil
  | ((refine' RpL.cons ?h ?l); (case h => walk_at "rp"); (case l => walk_at "rpl")))
local macro_rules | `(tactic| walk_at "vc") => `(tactic| repeat (first
  | with_reducible refine' x_seq ?_
  | with_reducible refine' x_ifS ?_
  | with_reducible refine' x_asg ?_
  | with_reducible refine' x_drop ?_
  | with_reducible refine' x_ret ?_
  | with_reducible refine' x_name ?_
  | with_reducible refine' x_c ?_
  | ((with_reducible refine' x_var ?h ?_); (case h => rfl))
  | with_reducible refine' x_op ?_
  | with_reducible refine' x_un ?_
  | with_reducible refine' x_tup ?_
  | with_reducible refine' x_lst ?_
  | ((with_reducible refine' x_gtup ?h ?l ?_); (case h => walk_at "look"); (case l => rfl))
  | ((with_reducible refine' x_gtup' ?h ?l ?_); (case h => walk_at "look"); (case l => rfl))
  | with_reducible refine' x_gcons ?_
  | with_reducible refine' x_gnil ?_
  | with_reducible refine' x_nil ?_
  | with_reducible refine' x_cons ?_
  | with_reducible refine' x_call ?_
  | with_reducible refine' x_meth ?_
  | ((with_reducible refine' x_methv ?h ?l ?_); (case h => walk_at "look"); (case l => first | rfl | decide +kernel))
  | with_reducible refine' x_make ?_
  | with_reducible refine' x_cb ?_
  | with_reducible refine' x_test ?_
  | with_reducible refine' x_B ?_
  | with_reducible refine' x_and ?_
  | with_reducible refine' x_or ?_
  | with_reducible refine' x_not ?_
  | with_reducible refine' x_if ?_
  | with_reducible refine' x_andV ?_
  | with_reducible refine' x_orV ?_
  | with_reducible refine' x_notV ?_
  | with_reducible refine' x_next ?_
  | with_reducible refine' x_gfldc ?_
  | with_reducible refine' x_bmF ?_
  | with_reducible refine' x_bmF0 ?_
  | ((with_reducible refine' y_tyL ?h ?_); (case h => walk_at "look"))
  | ((with_reducible refine' y_tyD ?h ?_); (case h => walk_at "look"))
  | ((with_reducible refine' y_lenL ?h ?_); (case h => walk_at "look"))
  | ((with_reducible refine' y_lenR ?h ?_); (case h => walk_at "look"))
  | with_reducible refine' x_forT ?_
  | with_reducible refine' x_forL ?_
  | with_reducible refine' x_lcT ?_
  | with_reducible refine' x_lcL ?_
  | ((with_reducible refine' y_tupleL ?h ?_); (case h => walk_at "look"); intro _ _ _ _ _)
  | ((with_reducible refine' y_tupleR ?h ?_); (case h => walk_at "look"))
  | ((with_reducible refine' y_tupleT ?h ?_); (case h => walk_at "look"))
  | with_reducible refine' x_cont ?_
  | with_reducible refine' x_dget ?_
  | with_reducible refine' x_din ?_
  | with_reducible refine' x_dput ?_
  | ((with_reducible refine' x_dnewN ?_); intro _ _ _ _ _)
  | with_reducible refine' x_nget2 ?_
  | with_reducible refine' x_nput ?_
  | with_reducible refine' x_lcN ?_
  | with_reducible refine' x_lcKF ?_
  | with_reducible refine' x_itemsN ?_
  | ((with_reducible refine' x_dnewK ?_); intro _ _ _ _ _)
  | with_reducible refine' x_forRev ?_
  | with_reducible refine' x_sl ?_
  | with_reducible refine' x_nopart ?_
  | with_reducible refine' x_part ?_
  | with_reducible refine' x_partI ?_
  | with_reducible refine' x_revL ?_
  | with_reducible refine' x_sfldc ?_
  | with_reducible refine' x_bl ?_
  | ((with_reducible refine' x_fldc ?h ?l ?_); (case h => walk_at "look"); (case l => first | rfl | decide +kernel))
  | ((with_reducible refine' x_setc ?h ?l ?_); (case h => walk_at "look"); (case l => exact Nat.le_of_ble_eq_true rfl); intro _ _ _)
  | ((with_reducible refine' y_num ?h ?_); (case h => walk_at "look"))
  | ((with_reducible refine' y_den ?h ?_); (case h => walk_at "look"))
  | with_reducible refine' y_I0 ?_
  | ((with_reducible refine' y_ixS ?h ?e ?a ?_); (case h => walk_at "look"); (case e => rfl); (case a => rfl))
  | ((with_reducible refine' y_ixI ?h ?e ?a ?_); (case h => walk_at "look"); (case e => rfl); (case a => rfl))
  | ((with_reducible refine' y_ixB ?h ?e ?a ?_); (case h => walk_at "look"); (case e => rfl); (case a => rfl))
  | ((with_reducible refine' y_ixR ?h ?e ?a ?_); (case h => walk_at "look"); (case e => rfl); (case a => rfl); intro _ _)
  | ((with_reducible refine' y_ixT ?h ?a ?_); (case h => walk_at "look"); (case a => rfl))
  | ((with_reducible refine' y_eq ?s ?_); (case s => rfl))
  | ((with_reducible refine' y_ne ?s ?_); (case s => rfl))
  | ((with_reducible refine' x_rtup ?l ?_); (case l => exact Nat.le_of_ble_eq_true rfl); intro _ _ _ _ _)
  | ((with_reducible refine' x_rlst ?l ?_); (case l => exact Nat.le_of_ble_eq_true rfl); intro _ _ _ _ _)
  | ((with_reducible refine' ite_t ?h ?_); (case h => first | with_reducible rfl | assumption | exact decide_eq_true (by omega) | decide +kernel | rfl))
  | ((with_reducible refine' ite_f ?h ?_); (case h => first | with_reducible rfl | assumption | exact decide_eq_false (by omega) | decide +kernel | rfl))))
section
variable {P : Program} {w : World} {K : PySem.W.Frag} {mg : Str → Option Value} {base : Heap}
theorem ok_Look_asked (T : Tx K mg) {c : Nat} (cb : Cal P w K mg base (2 * c + 8) d_Look_best ["self", "weights", "calls"] [] (sp_Look_best K c)) {fd : FuncData} (F : FnX K d_Look_asked fd) :
    FnOk P w K mg base CX0 (2 * c + 9) (He.fAd K d_Look_asked.at_) fd ["self", "weights", "name", "given", "calls"] (sp_Look_asked K c) := by
  refine F.ok sc_Look_asked (fun vs H Q E h => ?_) (fun cdv A outer s0 H vs Q E hr h => ?_)
  · obtain ⟨p, al, wt, l0, l1, n, s0, s1, N, left, W0, W1, g, left', rfl, _⟩ := h
    rfl
  obtain ⟨p, al, wt, l0, l1, n, s0, s1, N, left, W0, W1, g, left', rfl, hL, hwt, hW0, hW1, n0, hn, hs0, hs1, hN0, hN, hM, q⟩ := h
  have hu := hu1 hr
  refine ⟨_, PSs.nox (pss_cons (ps_fldc T.cl_Look T.n_Look_left (pv 0) (pe_op op_sub (pe_fldc T.cl_Look T.n_Look_left (pv 0)) pe_int))
      (pss_cons (ps_if (pt_cmpR op_lt (pe_fldc T.cl_Look T.n_Look_left (pv 0)) pe_int (nomark _)) pss_never pss_nil)
      (pss_cons (ps_setLc (i := 5) (own := [("side", 11)]) (g := gName 11) (tt := tYes) (by rfl) sc_Look_asked.nd rfl rfl (sw_true rfl rfl rfl (by decide +kernel)) (pi_tup (pe_tupF (pa_cons pe_int (pa_cons pe_int pa_nil)))) (blkOk_by (own := [("side", 11)]) (N := ["self", "weights", "name", "given", "calls", "sides", "gain", "parts", "answer", "more", "player", "side"]) (sc := defScope s_Look_asked) (by decide +kernel)) (fun _ _ _ _ _ => (pg_name (i := 11) sc_Look_asked.nd rfl (Or.inl rfl))) (fun _ _ _ _ _ => pts_nil) (fun _ _ _ _ _ => (pe_metc (c_Look_split T) (pv 0) T.cl_Look T.m_Look_split (hr.mono (by omega)) (pa_cons (pv 11) (pa_cons (pe_ix ix_tupF (pv 1) (pv 11) (fun _ _ => rfl)) (pa_cons (pv 2) (pa_cons (pv 3) pa_nil)))))))
      (pss_cons (ps_set (i := 6) sc_Look_asked.nd rfl (Or.inl rfl) (pe_mkc (c_Ratio_init1 T) T.mk_Ratio (hr.mono (by omega)) rfl T.g_Ratio (pa_cons pe_int pa_nil)))
      (pss_cons (ps_set (i := 7) sc_Look_asked.nd rfl (Or.inl rfl) (pe_lst pa_nil))
      (pss_cons (ps_for PassesOwn.never rfl (pi_list (pe_callB (call_sortedDI rfl) (by rfl) T.f_sorted (by decide +kernel) (pa_cons (pe_ix ix_listF (pv 5) pe_int (fun _ _ => rfl)) pa_nil))) (pg_name (i := 8) sc_Look_asked.nd rfl (Or.inl rfl)) (pss_cons (ps_asg (pe_metc cb (pv 0) T.cl_Look T.m_Look_best (hr.mono (by omega)) (pa_cons (pe_tupF (pa_cons (pe_dget hu (pe_ix ix_listF (pv 5) pe_int (fun _ _ => rfl)) (pv 8) (fun _ _ => rfl)) (pa_cons (pe_dget2 hu (pe_ix ix_listF (pv 5) pe_int (fun _ _ => rfl)) (pv 8) (pe_lst pa_nil) ⟨rfl, rfl, rfl, rfl⟩) pa_nil))) (pa_cons (pe_op op_sub (pv 4) pe_int) pa_nil))) (pg_tup rfl (pgs_cons (pg_name (i := 9) sc_Look_asked.nd rfl (Or.inl rfl)) (pgs_cons (pg_name (i := 10) sc_Look_asked.nd rfl (Or.inl rfl)) pgs_nil))))
      (pss_cons (ps_set (i := 6) sc_Look_asked.nd rfl (Or.inl rfl) (pe_op (op_own (c_Ratio_add T) T.m_Ratio_add T.self_Ratio (hr.mono (by omega))) (pv 6) (pv 9)))
      (pss_one (ps_expr (pe_bmF PySem.F.plainAttrs_list PySem.F.slot_list_append PySem.F.type_list_append mt_append (pv 7) (pa_cons (pe_tupF (pa_cons (pv 8) (pa_cons (pv 10) pa_nil))) pa_nil)))))))
      (pss_one (ps_ret (pe_tupF (pa_cons (pv 6) (pa_cons (pe_tupF (pa_cons pe_str (pa_cons (pv 2) (pa_cons (pv 3) (pa_cons (pe_callTy call_tupleF (by rfl) T.f_tuple (by decide +kernel) (pa_cons (pv 7) pa_nil)) pa_nil))))) pa_nil))))))))))), ?_⟩
  unfold askedM at hM
  split at hM
  case isTrue => cases hM
  rename_i hl0
  split at hM
  case isFalse => cases hM
  rename_i hck
  split at hM
  case isFalse => cases hM
  rename_i h64
  obtain ⟨ck0, ck1⟩ := Bool.and_eq_true_iff.mp hck
  have ck0 := chkW_ok ck0
  have ck1 := chkW_ok ck1
  obtain ⟨dx, rt, r0, r1, t, G1, G2, G3, G4, G5, G6⟩ := id hL
  walk_at "vc"
  rename_i H1 b1 e1 t2 H2 f2 s2 tu2
  have z1 : Fz K H H1 := Fz.but b1 G1 T.nf_Look
  have e1 : H1 p = some (.ins (He.ga K "Look") dx [("runners", .ref rt), ("asks", .ref al), ("left", .int ((left : Int) - 1))]) := e1
  have nal : al ≠ p := ne_of G5 G1 fun z => by cases z
  have hL1 : LookAt K H1 p al n s0 s1 ((left : Int) - 1) := ⟨dx, rt, r0, r1, t, e1, G2.fz z1, G3.fz z1, G4.fz z1, b1 _ _ nal G5, G6.fz z1⟩
  have hW0' : WAt K H1 N l0 W0 := by
    obtain ⟨ts, h1, h2⟩ := hW0
    exact ⟨ts, b1 _ _ (ne_of h1 G1 fun z => by cases z) h1, Paired.mapP h2 fun _ _ z => z.fz z1⟩
  have hW1' : WAt K H1 N l1 W1 := by
    obtain ⟨ts, h1, h2⟩ := hW1
    exact ⟨ts, b1 _ _ (ne_of h1 G1 fun z => by cases z) h1, Paired.mapP h2 fun _ _ z => z.fz z1⟩
  have hwt1 := hwt.fz z1
  have b02 : But p H H2 := b1.same s2
  refine y_lcT (fun D i v H' => ∃ d f, v = .ref d ∧ [splitM n s0 W0, splitM n s1 W1][i]? = some f ∧ SideAt (· ≠ D) K H' N d f) (fun D ys i v H H' hD bt ⟨d, f, g1, g2, g3⟩ => ⟨d, f, g1, g2, g3.butD bt hD⟩) tu2 (Nat.le_of_ble_eq_true rfl) (fun D i x' H' acc hi hD s3 hacc Q' q' => ?_) mg_name fun D H3 acc hD s3 hacc hla hr1 => ?_
  · have s13 : Same H1 H' := s2.trans s3
    have hp' := s13 _ _ e1
    have hwt' := hwt1.same s13
    obtain ⟨lx, Wx, hx, hlx, hWx, hfx, hokx⟩ : ∃ (lx : Addr) (Wx : WL), x' = .int (i : Nat) ∧ [V.ref l0, V.ref l1][i]? = some (.ref lx) ∧ WAt K H1 N lx Wx ∧ [splitM n s0 W0, splitM n s1 W1][i]? = some (splitM n (if i = 0 then s0 else s1) Wx) ∧ Wx.length ≤ 1000 ∧ ∀ e ∈ Wx, okW n e := by
      match i, hi with
      | 0, hi => cases hi; exact ⟨l0, W0, rfl, rfl, hW0', rfl, ck0⟩
      | 1, hi => cases hi; exact ⟨l1, W1, rfl, rfl, hW1', rfl, ck1⟩
      | i + 2, hi => simp at hi
    have hi2 : i < 2 := by
      have := (List.getElem?_eq_some_iff.mp hi).1
      simpa using this
    subst hx
    walk_at "vc"
    refine ⟨rfl, ?_⟩
    walk_at "vc"
    refine y_ixT hwt' (atI_nat hlx) ?_
    walk_at "vc"
    refine ⟨p, al, lx, i, n, s0, s1, N, _, Wx, rfl, hL1.same s13, hi2, hWx.same s13, hokx.2, hokx.1, n0, hn, hs0, hs1, hN0, hN, fun d H4 s4 hS => ?_⟩
    refine q' _ _ s4 ⟨d, _, rfl, hfx, SideAt.imp (fun l hl z => ?_) hS⟩
    have hl : H' l = none := hl
    rw [z, hacc] at hl
    cases hl
  obtain ⟨y1, y2, rfl⟩ : ∃ y1 y2, acc = [y1, y2] := by
    match acc, hla with
    | [y1, y2], _ => exact ⟨y1, y2, rfl⟩
  obtain ⟨d0, _, rfl, g0, S0⟩ := hr1 0 y1 rfl
  cases g0
  obtain ⟨d1, _, rfl, g1, S1⟩ := hr1 1 y2 rfl
  cases g1
  have s13 : Same H1 H3 := s2.trans s3
  walk_at "vc"
  refine y_mkR' (r := 0) (by decide) (by decide) (by decide) (by decide +kernel) fun v4 H4 s4 h4 => ?_
  have s14 := s13.trans s4
  walk_at "vc"
  rename_i lp H5 f5 s5 e5
  have s35 := s4.trans s5
  have S0' := ((S0.same s4).ne f5).same s5
  have S1' := ((S1.same s4).ne f5).same s5
  have h5 := h4.same s5
  have hL5 := (hL1.same s14).same s5
  have e5p := s5 _ _ (s14 _ _ e1)
  have e5D := s35 _ _ hacc
  have nD : D ≠ lp := fun z => by rw [← z, s4 _ _ hacc] at f5; cases f5
  generalize hf0 : splitM n s0 W0 = F0 at S0' hM h64
  generalize hf1 : splitM n s1 W1 = F1 at S1' hM
  have nF0 : (F0.map (·.1)).Nodup := hf0 ▸ split_keys n s0 W0
  obtain ⟨kv0, k1, k2⟩ := id S0'
  walk_at "vc"
  refine y_ixL e5D (i := 0) (v := .ref d0) rfl ?_
  walk_at "vc"
  have hks : kv0.map (·.1) = ((F0.map (·.1)).map fun (a : Nat) => (a : Int)).map Sum.inl := by
    rw [kv_keys (F := fun v row => ∃ l, v = .ref l ∧ l ≠ lp ∧ WAt K H5 N l row) k2]
    simp only [List.map_map]
    rfl
  refine ⟨d0, kv0, _, rfl, .inl k1, hks, by rw [List.length_map, List.length_map]; exact h64, fun ys ly py oy f6 => ?_⟩
  have ey := srt_unique py oy
  subst ey
  have s56 : Same H5 (upd H5 ly (.lst (((srt (F0.map (·.1))).map fun (a : Nat) => (a : Int)).map V.int))) := Same.new f6
  have e6 : upd H5 ly (.lst (((srt (F0.map (·.1))).map fun (a : Nat) => (a : Int)).map V.int)) ly = some (.lst (((srt (F0.map (·.1))).map fun (a : Nat) => (a : Int)).map V.int)) := upd_same
  generalize upd H5 ly (.lst (((srt (F0.map (·.1))).map fun (a : Nat) => (a : Int)).map V.int)) = H6 at s56 e6
  have e6p := s56 _ _ e5p
  have e6l := s56 _ _ e5
  have S06 := S0'.same s56
  have e6D := s56 _ _ e5D
  have S16 := S1'.same s56
  have nly : ly ≠ lp := fun z => by rw [z, e5] at f6; cases f6
  have b06 : But p H H6 := ((b02.same s3).same s35).same s56
  have flp : H lp = none := (((b02.same s3).same s4)).free (s14 _ _ e1) f5
  generalize has : srt (F0.map (·.1)) = as at e6 hM
  have hal : as.length < 64 := by
    rw [← has, (srt_perm _).length_eq, List.length_map]
    exact h64
  have hmem : ∀ a ∈ as, a ∈ F0.map (·.1) := fun a ha => (srt_perm _).mem_iff.mp (has ▸ ha)
  have nlp : lp ≠ p := ne_of e5 e5p fun z => by cases z
  refine y_forL e6 (fun j σ' H' => ∃ acc lf vg xs z8 z9 z10, σ' = [some (.ref p), some (.ref wt), some (.str "p"), some (.int 0), some (.int ((c + 1 : Nat) : Int)), some (.ref D), some vg, some (.ref lp), z8, z9, z10, none] ∧ B2 p lp H6 H' ∧ LookAt K H' p al n s0 s1 (lf : Nat) ∧ RR K H' vg (mkRat acc N) ∧ acc.natAbs < 2 ^ 50 ∧ askL (bestM n s0 s1 c) F0 F1 (as.drop j) acc lf = some (g, left') ∧ H' lp = some (.lst xs) ∧ xs.length = j) ?h0 ?hll ?hs ?hd
  case h0 =>
    refine ⟨0, left - 1, v4, [], none, none, none, rfl, fun _ _ _ _ e => e, ?_, ?_, by decide, hM, e6l, rfl⟩
    · have ec : ((left - 1 : Nat) : Int) = (left : Int) - 1 := by omega
      rw [ec]
      exact hL5.same s56
    · rw [mk_zero]
      exact h5.same s56
  case hll =>
    rintro j σ' H' _ ⟨_, _, _, _, _, _, _, _, b, _⟩
    exact b _ _ (ne_of e6 e6p fun z => by cases z) nly e6
  case hd =>
    rintro σ' H' ⟨acc, lf, vg, xs, z8, z9, z10, rfl, b, hL', hvg, hacb, hk, hlp, _⟩
    rw [List.length_map, List.length_map, List.drop_length] at hk
    cases hk
    walk_at "vc"
    rename_i p7 H7 f7 s7 t7 p8 H8 f8 s8 t8 p9 H9 f9 s9 t9
    have s79 : Same H' H9 := (s7.trans s8).trans s9
    refine q p9 _ _ H9 (fun c o hc e => s79 _ _ (b c o hc (ne_of_none e flp) (b06 c o hc e))) (hL'.same s79) t9 (hvg.same s79) hacb
  rintro j x σ' H' hj ⟨acc, lf, vg, xs, z8, z9, z10, rfl, b, hL', hvg, hacb, hk, hlp, hxl⟩
  rw [List.map_map, List.getElem?_map] at hj
  obtain ⟨a, ha, hxa⟩ := Option.map_eq_some_iff.mp hj
  have hxa : x = .int (a : Nat) := hxa.symm
  subst hxa
  obtain ⟨hja, hja2⟩ := List.getElem?_eq_some_iff.mp ha
  rw [List.drop_eq_getElem_cons hja, hja2] at hk
  obtain ⟨_, _, _, _, _, gp', _⟩ := id hL'
  have S0h := S06.b2 T b e6p e6l
  have S1h := S16.b2 T b e6p e6l
  obtain ⟨kva, m1, m2⟩ := id S0h
  obtain ⟨kvb, m3, m4⟩ := id S1h
  have hD6 := b _ _ (ne_of e6D e6p fun z => by cases z) nD e6D
  have fm := fget_mem (hmem a (List.mem_of_getElem? ha))
  rcases side_get m2 a with ⟨z, _⟩ | ⟨row0, la, q1, q2, q3, q4⟩
  · exact absurd z fm
  walk_at "vc"
  refine y_ixL hD6 (i := 0) (v := .ref d0) rfl ?_
  walk_at "vc"
  refine y_dgetR m1 q2 ?_
  walk_at "vc"
  refine x_dget2 ?_
  walk_at "vc"
  refine y_ixL hD6 (i := 1) (v := .ref d1) rfl ?_
  refine ⟨d1, rfl, .inl ⟨kvb, .inl m3⟩, ?_⟩
  walk_at "vc"
  rename_i le H7 f7 s7 e7
  refine ⟨valV kvb (Sum.inl (a : Int)), DGet.k (k := Sum.inl (a : Int)) (s7 _ _ m3), ?_⟩
  obtain ⟨lb, elb, hWb⟩ : ∃ lb, (valV kvb (Sum.inl (a : Int))).getD (.ref le) = .ref lb ∧ WAt K H7 N lb ((fget F1 a).getD []) := by
    rcases side_get m4 a with ⟨z1, z2⟩ | ⟨row, l, z1, z2, _, z4⟩
    · rw [z1, z2]
      exact ⟨le, rfl, [], e7, .nil⟩
    · rw [z1, z2]
      exact ⟨l, rfl, z4.same s7⟩
  rw [elb]
  have hrow0 : (fget F0 a).getD [] = row0 := by rw [q1]; rfl
  unfold askL at hk
  rw [hrow0] at hk
  split at hk
  · cases hk
  rename_i m lf' hbm
  split at hk
  case isFalse => cases hk
  rename_i hacm
  walk_at "vc"
  rename_i tt H8 f8 s8 tu8
  have s78 : Same H' H8 := s7.trans s8
  have ec : ((c + 1 : Nat) : Int) - 1 = (c : Nat) := by omega
  rw [ec]
  refine ⟨p, al, tt, la, lb, n, s0, s1, N, lf, row0, _, m, lf', rfl, hL'.same s78, tu8, q4.same s78, hWb.same s8, n0, hn, hs0, hs1, hN0, hN, hbm, fun v r pl H9 bp hL9 tu9 hr9 hb9 => ?_⟩
  have gp8 := s78 _ _ gp'
  have z89 : Fz K H8 H9 := Fz.but bp gp8 T.nf_Look
  walk_at "vc"
  refine y_rop ((hvg.same s78).fz z89) hr9 (sm_mk hN0 (by omega) (by omega)) (sm_mk hN0 (by omega) (by omega)) fun v10 H10 s10 h10 => ?_
  have h10 : RR K H10 v10 (mkRat (acc + m) N) := by
    have := h10
    rwa [mk_add _ _ hN0] at this
  have hlp9 : H9 lp = some (.lst xs) := bp _ _ nlp (s78 _ _ hlp)
  have hlp10 := s10 _ _ hlp9
  walk_at "vc"
  rename_i p11 H11 f11 s11 t11
  refine y_append (s11 _ _ hlp10) (by omega) fun H12 b12 e12 => ?_
  have z1112 : Fz K H11 H12 := Fz.but b12 (s11 _ _ hlp10) nf_lst
  refine ⟨acc + m, lf', v10, _, _, _, _, rfl, ?_, ?_, (h10.same s11).fz z1112, hacm, hk, e12, by rw [List.length_append, hxl]; rfl⟩
  · intro cc o h1 h2 e
    exact b12 _ _ h2 (s11 _ _ (s10 _ _ (bp _ _ h1 (s78 _ _ (b _ _ h1 h2 e)))))
  · obtain ⟨dx9, rt9, r09, r19, t9, u1, u2, u3, u4, u5, u6⟩ := (hL9.same s10).same s11
    exact ⟨dx9, rt9, r09, r19, t9, b12 _ _ nlp.symm u1, u2.fz z1112, u3.fz z1112, u4.fz z1112, b12 _ _ (ne_of_none G5 flp) u5, u6.fz z1112⟩
end
end Tn
set_option Elab.async false
set_option linter.all false
set_option maxRecDepth 100000
set_option maxHeartbeats 4000000
set_option pp.maxSteps 400
namespace Tn
open PySem PySem.Spec L2
local macro_rules | `(tactic| walk_at "tz") => `(tactic| first
  | ((refine' Tz.same ?s); (case s => with_reducible assumption))
  | ((refine' Tz.but ?b ?h ?n); (case b => with_reducible assumption); (case h => walk_at "look"); (case n => (intro o v z; cases z))))
local macro_rules | `(tactic| walk_at "fz") => `(tactic| first
  | ((refine' Fz.same ?s); (case s => with_reducible assumption))
  | ((refine' Fz.but ?b ?h ?n); (case b => with_reducible assumption); (case h => walk_at "look"); (case n => first | exact nf_lst | exact nf_dK | exact nf_ext | assumption)))
local macro_rules | `(tactic| walk_at "look") => `(tactic| first
  | with_reducible assumption
  | ((with_reducible refine' Same.app ?s ?m); (case s => with_reducible assumption); (case m => walk_at "look"))
  | ((with_reducible refine' RR.fz ?z ?m); (case z => walk_at "fz"); (case m => walk_at "look"))
  | ((with_reducible refine' Rp.tz ?z ?m); (case z => walk_at "tz"); (case m => walk_at "look"))
  | ((with_reducible refine' TU.tz ?z ?m); (case z => walk_at "tz"); (case m => walk_at "look"))
  | ((with_reducible refine' RpL.tz ?z ?m); (case z => walk_at "tz"); (case m => walk_at "look"))
  | ((with_reducible refine' GM.fz ?z ?m); (case z => walk_at "fz"); (case m => walk_at "look"))
  | ((with_reducible refine' But.app' ?b ?n ?m); (case b => with_reducible assumption); (case n => first | assumption | (refine Ne.symm ?_; assumption)); (case m => walk_at "look"))
  | ((with_reducible refine' But.app ?b ?l ?d ?m); (case b => with_reducible assumption); (case m => walk_at "look"); (case l => walk_at "look"); (case d => (intro z; cases z))))
local macro_rules | `(tactic| walk_at "rp") => `(tactic| first
  | (with_reducible assumption)
  | walk_at "look"
  | exact Rp.bl _ | exact Rp.int _ | exact Rp.str _ | exact Rp.non
  | ((refine' Rp.tup ?h ?l); (case h => walk_at "look"); (case l => walk_at "rpl")))
local macro_rules | `(tactic| walk_at "rpl") => `(tactic| first
  | exact RpL.nil
  | ((refine' RpL.cons ?h ?l); (case h => walk_at "rp"); (case l => walk_at "rpl")))
local macro_rules | `(tactic| walk_at "vc") => `(tactic| repeat (first
  | with_reducible refine' x_seq ?_
  | with_reducible refine' x_ifS ?_
  | with_reducible refine' x_asg ?_
  | with_reducible refine' x_drop ?_
  | with_reducible refine' x_ret ?_
  | with_reducible refine' x_name ?_
  | with_reducible refine' x_c ?_
  | ((with_reducible refine' x_var ?h ?_); (case h => rfl))
  | with_reducible refine' x_op ?_
  | with_reducible refine' x_un ?_
  | with_reducible refine' x_tup ?_
  | with_reducible refine' x_lst ?_
  | ((with_reducible refine' x_gtup ?h ?l ?_); (case h => walk_at "look"); (case l => rfl))
  | ((with_reducible refine' x_gtup' ?h ?l ?_); (case h => walk_at "look"); (case l => rfl))
  | with_reducible refine' x_gcons ?_
  | with_reducible refine' x_gnil ?_
  | with_reducible refine' x_nil ?_
  | with_reducible refine' x_cons ?_
  | with_reducible refine' x_call ?_
  | with_reducible refine' x_meth ?_
  | ((with_reducible refine' x_methv ?h ?l ?_); (case h => walk_at "look"); (case l => first | rfl | decide +kernel))
  | with_reducible refine' x_make ?_
  | with_reducible refine' x_cb ?_
  | with_reducible refine' x_test ?_
  | with_reducible refine' x_B ?_
  | with_reducible refine' x_and ?_
  | with_reducible refine' x_or ?_
  | with_reducible refine' x_not ?_
  | with_reducible refine' x_if ?_
  | with_reducible refine' x_andV ?_
  | with_reducible refine' x_orV ?_
  | with_reducible refine' x_notV ?_
  | with_reducible refine' x_next ?_
  | with_reducible refine' x_gfldc ?_
  | with_reducible refine' x_bmF ?_
  | with_reducible refine' x_bmF0 ?_
  | ((with_reducible refine' y_tyL ?h ?_); (case h => walk_at "look"))
  | ((with_reducible refine' y_tyD ?h ?_); (case h => walk_at "look"))
  | ((with_reducible refine' y_lenL ?h ?_); (case h => walk_at "look"))
  | ((with_reducible refine' y_lenR ?h ?_); (case h => walk_at "look"))
  | with_reducible refine' x_forT ?_
  | with_reducible refine' x_forL ?_
  | with_reducible refine' x_lcT ?_
  | with_reducible refine' x_lcL ?_
  | ((with_reducible refine' y_tupleL ?h ?_); (case h => walk_at "look"); intro _ _ _ _ _)
  | ((with_reducible refine' y_tupleR ?h ?_); (case h => walk_at "look"))
  | ((with_reducible refine' y_tupleT ?h ?_); (case h => walk_at "look"))
  | with_reducible refine' x_cont ?_
  | with_reducible refine' x_dget ?_
  | with_reducible refine' x_din ?_
  | with_reducible refine' x_dput ?_
  | ((with_reducible refine' x_dnewN ?_); intro _ _ _ _ _)
  | with_reducible refine' x_nget2 ?_
  | with_reducible refine' x_nput ?_
  | with_reducible refine' x_lcN ?_
  | with_reducible refine' x_lcKF ?_
  | with_reducible refine' x_itemsN ?_
  | ((with_reducible refine' x_dnewK ?_); intro _ _ _ _ _)
  | with_reducible refine' x_forRev ?_
  | with_reducible refine' x_sl ?_
  | with_reducible refine' x_nopart ?_
  | with_reducible refine' x_part ?_
  | with_reducible refine' x_partI ?_
  | with_reducible refine' x_revL ?_
  | with_reducible refine' x_sfldc ?_
  | with_reducible refine' x_bl ?_
  | ((with_reducible refine' x_fldc ?h ?l ?_); (case h => walk_at "look"); (case l => first | rfl | decide +kernel))
  | ((with_reducible refine' x_setc ?h ?l ?_); (case h => walk_at "look"); (case l => exact Nat.le_of_ble_eq_true rfl); intro _ _ _)
  | ((with_reducible refine' y_num ?h ?_); (case h => walk_at "look"))
  | ((with_reducible refine' y_den ?h ?_); (case h => walk_at "look"))
  | with_reducible refine' y_I0 ?_
  | ((with_reducible refine' y_ixS ?h ?e ?a ?_); (case h => walk_at "look"); (case e => rfl); (case a => rfl))
  | ((with_reducible refine' y_ixI ?h ?e ?a ?_); (case h => walk_at "look"); (case e => rfl); (case a => rfl))
  | ((with_reducible refine' y_ixB ?h ?e ?a ?_); (case h => walk_at "look"); (case e => rfl); (case a => rfl))
  | ((with_reducible refine' y_ixR ?h ?e ?a ?_); (case h => walk_at "look"); (case e => rfl); (case a => rfl); intro _ _)
  | ((with_reducible refine' y_ixT ?h ?a ?_); (case h => walk_at "look"); (case a => rfl))
  | ((with_reducible refine' y_eq ?s ?_); (case s => rfl))
  | ((with_reducible refine' y_ne ?s ?_); (case s => rfl))
  | ((with_reducible refine' x_rtup ?l ?_); (case l => exact Nat.le_of_ble_eq_true rfl); intro _ _ _ _ _)
  | ((with_reducible refine' x_rlst ?l ?_); (case l => exact Nat.le_of_ble_eq_true rfl); intro _ _ _ _ _)
  | ((with_reducible refine' ite_t ?h ?_); (case h => first | with_reducible rfl | assumption | exact decide_eq_true (by omega) | decide +kernel | rfl))
  | ((with_reducible refine' ite_f ?h ?_); (case h => first | with_reducible rfl | assumption | exact decide_eq_false (by omega) | decide +kernel | rfl))))
/-- the weights at the start -/
abbrev W00 (N : Nat) : WL := [(([], false), N)]
def sp_best_player (K : PySem.W.Frag) (c : Nat) : Sp := fun vs H Q _ => ∃ (x y : V) (n s0 s1 N : Nat) (g : Int) (left' : Nat), vs = [x, y, .int (c : Nat)] ∧ GM K H x n s0 ∧ GM K H y n s1 ∧ 0 < n ∧ n < 60 ∧ s0 < 1000 ∧ s1 < 1000 ∧ N ≠ 0 ∧ N < 2 ^ 40 ∧
  bestM n s0 s1 c (W00 N) (W00 N) 3000 = some (g, left') ∧ ∀ v r pl H', Same H H' → TU H' v [r, pl] → RR K H' r (mkRat g N) → g.natAbs < 2 ^ 51 → Q (.ref v) H'
def sp_apart (K : PySem.W.Frag) (c : Nat) : Sp := fun vs H Q _ => ∃ (x y : V) (n s0 s1 N : Nat) (g g' : Int) (l l' : Nat), vs = [x, y, .int (c : Nat)] ∧ GM K H x n s0 ∧ GM K H y n s1 ∧ 0 < n ∧ n < 60 ∧ s0 < 1000 ∧ s1 < 1000 ∧ N ≠ 0 ∧ N < 2 ^ 40 ∧
  bestM n s0 s1 c (W00 N) (W00 N) 3000 = some (g, l) ∧ bestM n s1 s0 c (W00 N) (W00 N) 3000 = some (g', l') ∧ ∀ v H', Same H H' → RR K H' v (mkRat (if g < g' then g' else g) N) → (if g < g' then g' else g).natAbs < 2 ^ 51 → Q v H'
section
variable {P : Program} {w : World} {K : PySem.W.Frag} {mg : Str → Option Value} {base : Heap}
theorem c_Look_asked_of (T : Tx K mg) {c : Nat} (cb : Cal P w K mg base (2 * c + 8) d_Look_best ["self", "weights", "calls"] [] (sp_Look_best K c)) : Cal P w K mg base (2 * c + 9) d_Look_asked ["self", "weights", "name", "given", "calls"] [] (sp_Look_asked K c) :=
  Cal.of T.d_Look_asked rfl rfl (fun _ _ _ _ _ _ us hl => match us, hl with | [_, _, _, _, _], _ => rfl) fun fd F => ok_Look_asked T cb F
theorem c_Look_bestN (T : Tx K mg) : ∀ c, Cal P w K mg base (2 * c + 8) d_Look_best ["self", "weights", "calls"] [] (sp_Look_best K c)
  | 0 => Cal.of T.d_Look_best rfl rfl (fun _ _ _ _ _ _ us hl => match us, hl with | [_, _, _], _ => rfl) fun fd F => ok_Look_best0 T F
  | c + 1 => Cal.of T.d_Look_best rfl rfl (fun _ _ _ _ _ _ us hl => match us, hl with | [_, _, _], _ => rfl) fun fd F => ok_Look_bestS T (c_Look_asked_of T (c_Look_bestN T c)) F
theorem sc_best_player : FnScope ["game", "other", "calls", "look"] ["game", "other", "calls"] (defScope s_best_player) := ⟨rfl, rfl, rfl, by decide +kernel, rfl, by decide +kernel, by decide +kernel⟩
theorem sc_apart : FnScope ["game", "other", "calls", "one", "two"] ["game", "other", "calls"] (defScope s_apart) := ⟨rfl, rfl, rfl, by decide +kernel, rfl, by decide +kernel, by decide +kernel⟩
theorem y_one {H : Hp} {N : Nat} {r : V} (hN : N ≠ 0) (h : RR K H r 1) : RR K H r (mkRat (N : Nat) N) := by
  have e : mkRat (N : Nat) N = 1 := by
    have := Rat.mkRat_mul_right (n := 1) (d := 1) hN
    rw [Int.one_mul, Nat.one_mul] at this
    rw [this]
    decide +kernel
  rw [e]
  exact h
theorem ok_best_player (T : Tx K mg) (c : Nat) {fd : FuncData} (F : FnX K d_best_player fd) : FnOk P w K mg base CX0 (2 * c + 9) (He.fAd K d_best_player.at_) fd ["game", "other", "calls"] (sp_best_player K c) := by
  refine F.ok sc_best_player (fun vs H Q E h => ?_) (fun cdv A outer s0 H vs Q E hr h => ?_)
  · obtain ⟨x, y, n, s0, s1, N, g, left', rfl, _⟩ := h
    rfl
  obtain ⟨x, y, n, s0, s1, N, g, left', rfl, hx, hy, n0, hn, hs0, hs1, hN0, hN, hM, q⟩ := h
  refine ⟨_, PSs.nox (pss_cons (ps_set (i := 3) sc_best_player.nd rfl (Or.inl rfl) (pe_mkc (c_Look_init T) T.mk_Look (hr.mono (by omega)) rfl T.g_Look (pa_cons (pv 0) (pa_cons (pv 1) pa_nil))))
      (pss_one (ps_ret (pe_metc (c_Look_bestN T c) (pv 3) T.cl_Look T.m_Look_best (hr.mono (by omega)) (pa_cons (pe_tupF (pa_cons (pe_lst (pa_cons (pe_tupF (pa_cons (pe_cal (c_first_state T) (hr.mono (by omega)) rfl T.g_first_state (pa_cons (pv 0) pa_nil)) (pa_cons (pe_mkc (c_Ratio_init1 T) T.mk_Ratio (hr.mono (by omega)) rfl T.g_Ratio (pa_cons pe_int pa_nil)) pa_nil))) pa_nil)) (pa_cons (pe_lst (pa_cons (pe_tupF (pa_cons (pe_cal (c_first_state T) (hr.mono (by omega)) rfl T.g_first_state (pa_cons (pv 1) pa_nil)) (pa_cons (pe_mkc (c_Ratio_init1 T) T.mk_Ratio (hr.mono (by omega)) rfl T.g_Ratio (pa_cons pe_int pa_nil)) pa_nil))) pa_nil)) pa_nil))) (pa_cons (pv 2) pa_nil)))))), ?_⟩
  walk_at "vc"
  intro px dx hpx hdx ne
  have sx : Same H (upd (upd H dx (.own px)) px (.ins (He.ga K "Look") dx [])) := fun c o e => by
    rw [upd_ne (ne_of_none e hpx), upd_ne (ne_of_none e hdx)]
    exact e
  refine ⟨px, dx, x, y, n, s0, s1, rfl, upd_same, hx.same sx, hy.same sx, fun H1 al b1 hL => ⟨rfl, ?_⟩⟩
  have hL : LookAt K H1 px al n s0 s1 3000 := hL
  have s1' : Same H H1 := Same.but sx hpx b1
  obtain ⟨ldx, rt, r0, r1, t, G1, G2, G3, G4, G5, G6⟩ := id hL
  walk_at "vc"
  refine ⟨x, n, s0, rfl, hx.same s1', fun v2 H2 s2 h2 => ?_⟩
  walk_at "vc"
  refine y_mkR' (r := 1) (by decide) (by decide) (by decide) (by decide +kernel) fun v3 H3 s3 h3 => ?_
  walk_at "vc"
  rename_i t4 H4 f4 s4 tu4 l5 H5 f5 s5 e5
  have s25 := (s3.trans s4).trans s5
  have s15 := s2.trans s25
  have s05 := s1'.trans s15
  refine ⟨y, n, s1, rfl, hy.same s05, fun v6 H6 s6 h6 => ?_⟩
  walk_at "vc"
  refine y_mkR' (r := 1) (by decide) (by decide) (by decide) (by decide +kernel) fun v7 H7 s7 h7 => ?_
  walk_at "vc"
  rename_i t8 H8 f8 s8 tu8 l9 H9 f9 s9 e9 t10 H10 f10 s10 tu10
  have s510 := (((s6.trans s7).trans s8).trans s9).trans s10
  have s410 := s5.trans s510
  have s810 := s9.trans s10
  have s110 := s15.trans s510
  refine ⟨px, al, t10, l5, l9, n, s0, s1, N, 3000, W00 N, W00 N, g, left', rfl, hL.same s110, tu10, ⟨[t4], s510 _ _ e5, .cons ⟨v2, v3, tu4.same s410, ((h2.same s3).same s4).same s410, y_one hN0 ((h3.same s4).same s410)⟩ .nil⟩, ⟨[t8], s10 _ _ e9, .cons ⟨v6, v7, tu8.same s810, ((h6.same s7).same s8).same s810, y_one hN0 ((h7.same s8).same s810)⟩ .nil⟩, n0, hn, hs0, hs1, hN0, hN, hM, fun v r pl H' bp hL' tu hr' hb => ?_⟩
  exact q v r pl H' (Same.but (s1'.trans s110) hpx bp) tu hr' hb
theorem c_best_player (T : Tx K mg) (c : Nat) : Cal P w K mg base (2 * c + 9) d_best_player ["game", "other", "calls"] [] (sp_best_player K c) :=
  Cal.of T.d_best_player rfl rfl (fun _ _ _ _ _ _ us hl => match us, hl with | [_, _, _], _ => rfl) fun fd F => ok_best_player T c F
theorem ok_apart (T : Tx K mg) (c : Nat) {fd : FuncData} (F : FnX K d_apart fd) : FnOk P w K mg base CX0 (2 * c + 10) (He.fAd K d_apart.at_) fd ["game", "other", "calls"] (sp_apart K c) := by
  refine F.ok sc_apart (fun vs H Q E h => ?_) (fun cdv A outer s0 H vs Q E hr h => ?_)
  · obtain ⟨x, y, n, s0, s1, N, g, g', l, l', rfl, _⟩ := h
    rfl
  obtain ⟨x, y, n, s0, s1, N, g, g', l, l', rfl, hx, hy, n0, hn, hs0, hs1, hN0, hN, hM, hM', q⟩ := h
  refine ⟨_, PSs.nox (pss_cons (ps_set (i := 3) sc_apart.nd rfl (Or.inl rfl) (pe_ix ix_tupF (pe_cal (c_best_player T c) (hr.mono (by omega)) rfl T.g_best_player (pa_cons (pv 0) (pa_cons (pv 1) (pa_cons (pv 2) pa_nil)))) pe_int (fun _ _ => rfl)))
      (pss_cons (ps_set (i := 4) sc_apart.nd rfl (Or.inl rfl) (pe_ix ix_tupF (pe_cal (c_best_player T c) (hr.mono (by omega)) rfl T.g_best_player (pa_cons (pv 1) (pa_cons (pv 0) (pa_cons (pv 2) pa_nil)))) pe_int (fun _ _ => rfl)))
      (pss_cons (ps_if (pt_val (pe_metc (c_Ratio_below T) (pv 3) T.cl_Ratio T.m_Ratio_below (hr.mono (by omega)) (pa_cons (pv 4) pa_nil))) (pss_one (ps_ret (pv 4))) pss_nil)
      (pss_one (ps_ret (pv 3)))))), ?_⟩
  walk_at "vc"
  refine ⟨x, y, n, s0, s1, N, g, l, rfl, hx, hy, n0, hn, hs0, hs1, hN0, hN, hM, fun v r pl H1 s1' tu hr1 hb1 => ?_⟩
  walk_at "vc"
  refine ⟨y, x, n, s1, s0, N, g', l', rfl, hy.same s1', hx.same s1', n0, hn, hs1, hs0, hN0, hN, hM', fun v' r' pl' H2 s2 tu' hr2 hb2 => ?_⟩
  walk_at "vc"
  have hr1' := hr1.same s2
  obtain ⟨pr, dxr, rfl, hpr⟩ := id hr1'
  walk_at "vc"
  refine ⟨_, _, _, _, rfl, hr1', hr2, sm_mk hN0 (by omega) (by omega), sm_mk hN0 (by omega) (by omega), ?_⟩
  have elt : decide (mkRat g N < mkRat g' N) = decide (g < g') := by
    rw [decide_eq_decide]
    exact mk_lt hN0
  rw [elt]
  walk_at "vc"
  refine ite_c (fun hlt => ?_) (fun hge => ?_)
  · have hlt := of_decide_eq_true hlt
    walk_at "vc"
    rw [if_pos hlt] at q
    exact q _ _ (s1'.trans s2) hr2 hb2
  · have hge := of_decide_eq_false hge
    walk_at "vc"
    rw [if_neg hge] at q
    exact q _ _ (s1'.trans s2) hr1' hb1
theorem c_apart (T : Tx K mg) (c : Nat) : Cal P w K mg base (2 * c + 10) d_apart ["game", "other", "calls"] [] (sp_apart K c) :=
  Cal.of T.d_apart rfl rfl (fun _ _ _ _ _ _ us hl => match us, hl with | [_, _, _], _ => rfl) fun fd F => ok_apart T c F
end
end Tn
set_option Elab.async false
set_option linter.all false
set_option maxRecDepth 100000
set_option maxHeartbeats 4000000
set_option pp.maxSteps 400
namespace Tn
open PySem PySem.Spec L2
/-! ### bounds -/
def BdAt (K : PySem.W.Frag) (H : Hp) (v : V) (fl fi mo : Rat) : Prop := ∃ p dx a b c, v = .ref p ∧ H p = some (.ins (He.ga K "Bound") dx [("flat", a), ("first", b), ("more", c), ("limit", .non)]) ∧ RR K H a fl ∧ RR K H b fi ∧ RR K H c mo
theorem BdAt.fz {K : PySem.W.Frag} {H H' : Hp} {v : V} {fl fi mo : Rat} (z : Fz K H H') (h : BdAt K H v fl fi mo) : BdAt K H' v fl fi mo := by
  obtain ⟨p, dx, a, b, c, e, h1, h2, h3, h4⟩ := h
  exact ⟨p, dx, a, b, c, e, z _ _ (.inr (.inr (.inr rfl))) h1, h2.fz z, h3.fz z, h4.fz z⟩
theorem BdAt.same {K : PySem.W.Frag} {H H' : Hp} {v : V} {fl fi mo : Rat} (s : Same H H') (h : BdAt K H v fl fi mo) : BdAt K H' v fl fi mo := h.fz (Fz.same s)
def atR (fl fi mo : Rat) (k : Nat) : Rat := if k = 0 then 0 else if 1 < fl + fi * mkRat k 1 + mo * mkRat ((k : Int) * ((k : Int) - 1) / 2) 1 then 1 else fl + fi * mkRat k 1 + mo * mkRat ((k : Int) * ((k : Int) - 1) / 2) 1
def AtOk (fl fi mo : Rat) (k : Nat) : Prop := k < 1000 ∧ Sm fl ∧ Sm fi ∧ Sm mo ∧ Sm (mkRat k 1) ∧ Sm (mkRat ((k : Int) * ((k : Int) - 1) / 2) 1) ∧ Sm (fi * mkRat k 1) ∧ Sm (fl + fi * mkRat k 1) ∧ Sm (mo * mkRat ((k : Int) * ((k : Int) - 1) / 2) 1) ∧ Sm (fl + fi * mkRat k 1 + mo * mkRat ((k : Int) * ((k : Int) - 1) / 2) 1)
instance {fl fi mo : Rat} {k : Nat} : Decidable (AtOk fl fi mo k) := by unfold AtOk; infer_instance
local macro_rules | `(tactic| walk_at "tz") => `(tactic| first
  | ((refine' Tz.same ?s); (case s => with_reducible assumption))
  | ((refine' Tz.but ?b ?h ?n); (case b => with_reducible assumption); (case h => walk_at "look"); (case n => (intro o v z; cases z))))
local macro_rules | `(tactic| walk_at "fz") => `(tactic| first
  | ((refine' Fz.same ?s); (case s => with_reducible assumption))
  | ((refine' Fz.but ?b ?h ?n); (case b => with_reducible assumption); (case h => walk_at "look"); (case n => first | exact nf_lst | exact nf_dK | exact nf_ext | assumption)))
local macro_rules | `(tactic| walk_at "look") => `(tactic| first
  | with_reducible assumption
  | ((with_reducible refine' Same.app ?s ?m); (case s => with_reducible assumption); (case m => walk_at "look"))
  | ((with_reducible refine' RR.fz ?z ?m); (case z => walk_at "fz"); (case m => walk_at "look"))
  | ((with_reducible refine' Rp.tz ?z ?m); (case z => walk_at "tz"); (case m => walk_at "look"))
  | ((with_reducible refine' TU.tz ?z ?m); (case z => walk_at "tz"); (case m => walk_at "look"))
  | ((with_reducible refine' RpL.tz ?z ?m); (case z => walk_at "tz"); (case m => walk_at "look"))
  | ((with_reducible refine' GM.fz ?z ?m); (case z => walk_at "fz"); (case m => walk_at "look"))
  | ((with_reducible refine' But.app' ?b ?n ?m); (case b => with_reducible assumption); (case n => first | assumption | (refine Ne.symm ?_; assumption)); (case m => walk_at "look"))
  | ((with_reducible refine' But.app ?b ?l ?d ?m); (case b => with_reducible assumption); (case m => walk_at "look"); (case l => walk_at "look"); (case d => (intro z; cases z))))
local macro_rules | `(tactic| walk_at "rp") => `(tactic| first
  | (with_reducible assumption)
  | walk_at "look"
  | exact Rp.bl _ | exact Rp.int _ | exact Rp.str _ | exact Rp.non
  | ((refine' Rp.tup ?h ?l); (case h => walk_at "look"); (case l => walk_at "rpl")))
local macro_rules | `(tactic| walk_at "rpl") => `(tactic| first
  | exact RpL.nil
  | ((refine' RpL.cons ?h ?l); (case h => walk_at "rp"); (case l => walk_at "rpl")))
local macro_rules | `(tactic| walk_at "vc") => `(tactic| repeat (first
  | with_reducible refine' x_seq ?_
  | with_reducible refine' x_ifS ?_
  | with_reducible refine' x_asg ?_
  | with_reducible refine' x_drop ?_
  | with_reducible refine' x_ret ?_
  | with_reducible refine' x_name ?_
  | with_reducible refine' x_c ?_
  | ((with_reducible refine' x_var ?h ?_); (case h => rfl))
  | with_reducible refine' x_op ?_
  | with_reducible refine' x_un ?_
  | with_reducible refine' x_tup ?_
  | with_reducible refine' x_lst ?_
  | ((with_reducible refine' x_gtup ?h ?l ?_); (case h => walk_at "look"); (case l => rfl))
  | ((with_reducible refine' x_gtup' ?h ?l ?_); (case h => walk_at "look"); (case l => rfl))
  | with_reducible refine' x_gcons ?_
  | with_reducible refine' x_gnil ?_
  | with_reducible refine' x_nil ?_
  | with_reducible refine' x_cons ?_
  | with_reducible refine' x_call ?_
  | with_reducible refine' x_meth ?_
  | ((with_reducible refine' x_methv ?h ?l ?_); (case h => walk_at "look"); (case l => first | rfl | decide +kernel))
  | with_reducible refine' x_make ?_
  | with_reducible refine' x_cb ?_
  | with_reducible refine' x_test ?_
  | with_reducible refine' x_B ?_
  | with_reducible refine' x_and ?_
  | with_reducible refine' x_or ?_
  | with_reducible refine' x_not ?_
  | with_reducible refine' x_if ?_
  | with_reducible refine' x_andV ?_
  | with_reducible refine' x_orV ?_
  | with_reducible refine' x_notV ?_
  | with_reducible refine' x_next ?_
  | with_reducible refine' x_gfldc ?_
  | with_reducible refine' x_bmF ?_
  | with_reducible refine' x_bmF0 ?_
  | ((with_reducible refine' y_tyL ?h ?_); (case h => walk_at "look"))
  | ((with_reducible refine' y_tyD ?h ?_); (case h => walk_at "look"))
  | ((with_reducible refine' y_lenL ?h ?_); (case h => walk_at "look"))
  | ((with_reducible refine' y_lenR ?h ?_); (case h => walk_at "look"))
  | with_reducible refine' x_forT ?_
  | with_reducible refine' x_forL ?_
  | with_reducible refine' x_lcT ?_
  | with_reducible refine' x_lcL ?_
  | ((with_reducible refine' y_tupleL ?h ?_); (case h => walk_at "look"); intro _ _ _ _ _)
  | ((with_reducible refine' y_tupleR ?h ?_); (case h => walk_at "look"))
  | ((with_reducible refine' y_tupleT ?h ?_); (case h => walk_at "look"))
  | with_reducible refine' x_cont ?_
  | with_reducible refine' x_dget ?_
  | with_reducible refine' x_din ?_
  | with_reducible refine' x_dput ?_
  | ((with_reducible refine' x_dnewN ?_); intro _ _ _ _ _)
  | with_reducible refine' x_nget2 ?_
  | with_reducible refine' x_nput ?_
  | with_reducible refine' x_lcN ?_
  | with_reducible refine' x_lcKF ?_
  | with_reducible refine' x_itemsN ?_
  | ((with_reducible refine' x_dnewK ?_); intro _ _ _ _ _)
  | with_reducible refine' x_forRev ?_
  | with_reducible refine' x_sl ?_
  | with_reducible refine' x_nopart ?_
  | with_reducible refine' x_part ?_
  | with_reducible refine' x_partI ?_
  | with_reducible refine' x_revL ?_
  | with_reducible refine' x_sfldc ?_
  | with_reducible refine' x_bl ?_
  | ((with_reducible refine' x_fldc ?h ?l ?_); (case h => walk_at "look"); (case l => first | rfl | decide +kernel))
  | ((with_reducible refine' x_setc ?h ?l ?_); (case h => walk_at "look"); (case l => exact Nat.le_of_ble_eq_true rfl); intro _ _ _)
  | ((with_reducible refine' y_num ?h ?_); (case h => walk_at "look"))
  | ((with_reducible refine' y_den ?h ?_); (case h => walk_at "look"))
  | with_reducible refine' y_I0 ?_
  | ((with_reducible refine' y_ixS ?h ?e ?a ?_); (case h => walk_at "look"); (case e => rfl); (case a => rfl))
  | ((with_reducible refine' y_ixI ?h ?e ?a ?_); (case h => walk_at "look"); (case e => rfl); (case a => rfl))
  | ((with_reducible refine' y_ixB ?h ?e ?a ?_); (case h => walk_at "look"); (case e => rfl); (case a => rfl))
  | ((with_reducible refine' y_ixR ?h ?e ?a ?_); (case h => walk_at "look"); (case e => rfl); (case a => rfl); intro _ _)
  | ((with_reducible refine' y_ixT ?h ?a ?_); (case h => walk_at "look"); (case a => rfl))
  | ((with_reducible refine' y_eq ?s ?_); (case s => rfl))
  | ((with_reducible refine' y_ne ?s ?_); (case s => rfl))
  | ((with_reducible refine' x_rtup ?l ?_); (case l => exact Nat.le_of_ble_eq_true rfl); intro _ _ _ _ _)
  | ((with_reducible refine' x_rlst ?l ?_); (case l => exact Nat.le_of_ble_eq_true rfl); intro _ _ _ _ _)
  | ((with_reducible refine' ite_t ?h ?_); (case h => first | with_reducible rfl | assumption | exact decide_eq_true (by omega) | decide +kernel | rfl))
  | ((with_reducible refine' ite_f ?h ?_); (case h => first | with_reducible rfl | assumption | exact decide_eq_false (by omega) | decide +kernel | rfl))))
def sp_Bound_init (K : PySem.W.Frag) : Sp := fun vs H Q _ => ∃ (p dx : Addr) (a b c : V) (fl fi mo : Rat), vs = [.ref p, a, b, c, .non] ∧ H p = some (.ins (He.ga K "Bound") dx []) ∧ RR K H a fl ∧ RR K H b fi ∧ RR K H c mo ∧ 0 ≤ fl.num ∧ 0 ≤ fi.num ∧ 0 ≤ mo.num ∧
  ∀ H', But p H H' → H' p = some (.ins (He.ga K "Bound") dx [("flat", a), ("first", b), ("more", c), ("limit", .non)]) → Q .non H'
def sp_nothing (K : PySem.W.Frag) : Sp := fun vs H Q _ => vs = [] ∧ ∀ v H', Same H H' → BdAt K H' v 0 0 0 → Q v H'
def sp_Bound_plus (K : PySem.W.Frag) : Sp := fun vs H Q _ => ∃ (x y : V) (fl fi mo fl' fi' mo' : Rat), vs = [x, y] ∧ BdAt K H x fl fi mo ∧ BdAt K H y fl' fi' mo' ∧ Sm fl ∧ Sm fi ∧ Sm mo ∧ Sm fl' ∧ Sm fi' ∧ Sm mo' ∧ 0 ≤ (fl + fl').num ∧ 0 ≤ (fi + fi').num ∧ 0 ≤ (mo + mo').num ∧ ∀ v H', Same H H' → BdAt K H' v (fl + fl') (fi + fi') (mo + mo') → Q v H'
def sp_Bound_at (K : PySem.W.Frag) : Sp := fun vs H Q _ => ∃ (x : V) (fl fi mo : Rat) (k : Nat), vs = [x, .int (k : Nat)] ∧ BdAt K H x fl fi mo ∧ AtOk fl fi mo k ∧ ∀ v H', Same H H' → RR K H' v (atR fl fi mo k) → Q v H'
def hiR : List Rat → Rat → Rat
  | [], r => r
  | x :: xs, r => hiR xs (if r < x then x else r)
def sp_highest (K : PySem.W.Frag) : Sp := fun vs H Q _ => ∃ (a : Addr) (xs : List V) (rs : List Rat), vs = [.ref a] ∧ H a = some (.lst xs) ∧ RRL K H xs rs ∧ (∀ r ∈ rs, Sm r) ∧ ∀ v H', Same H H' → RR K H' v (hiR rs 0) → Q v H'
section
variable {P : Program} {w : World} {K : PySem.W.Frag} {mg : Str → Option Value} {base : Heap}
theorem sc_Bound_init : FnScope ["self", "flat", "first", "more", "limit", "ratio"] ["self", "flat", "first", "more", "limit"] (defScope s_Bound_init) := ⟨rfl, rfl, rfl, by decide +kernel, rfl, by decide +kernel, by decide +kernel⟩
theorem sc_Bound_at : FnScope ["self", "calls", "result"] ["self", "calls"] (defScope s_Bound_at) := ⟨rfl, rfl, rfl, by decide +kernel, rfl, by decide +kernel, by decide +kernel⟩
theorem sc_Bound_plus : FnScope ["self", "other", "limit"] ["self", "other"] (defScope s_Bound_plus) := ⟨rfl, rfl, rfl, by decide +kernel, rfl, by decide +kernel, by decide +kernel⟩
theorem sc_nothing : FnScope [] [] (defScope s_nothing) := ⟨rfl, rfl, rfl, by decide +kernel, rfl, by decide +kernel, by decide +kernel⟩
theorem sc_highest : FnScope ["ratios", "result", "ratio"] ["ratios"] (defScope s_highest) := ⟨rfl, rfl, rfl, by decide +kernel, rfl, by decide +kernel, by decide +kernel⟩
theorem y_mkBd {H : Hp} {Q : VK} {a b c : V} {fl fi mo : Rat} (h1 : RR K H a fl) (h2 : RR K H b fi) (h3 : RR K H c mo) (g1 : 0 ≤ fl.num) (g2 : 0 ≤ fi.num) (g3 : 0 ≤ mo.num) (q : ∀ v H', Same H H' → BdAt K H' v fl fi mo → Q v H') : rMake (He.ga K "Bound") (sp_Bound_init K) [a, b, c, .non] H Q := by
  intro x dx hx hdx ne
  have sx : Same H (upd (upd H dx (.own x)) x (.ins (He.ga K "Bound") dx [])) := fun c o e => by
    rw [upd_ne (ne_of_none e hx), upd_ne (ne_of_none e hdx)]
    exact e
  refine ⟨x, dx, a, b, c, fl, fi, mo, rfl, upd_same, h1.same sx, h2.same sx, h3.same sx, g1, g2, g3, fun H' b1 e1 => ⟨rfl, ?_⟩⟩
  have s1 : Same H H' := Same.but sx hx b1
  exact q _ _ s1 ⟨x, dx, a, b, c, rfl, e1, h1.same s1, h2.same s1, h3.same s1⟩
theorem ok_Bound_init (T : Tx K mg) {fd : FuncData} (F : FnX K d_Bound_init fd) : FnOk P w K mg base CX0 1 (He.fAd K d_Bound_init.at_) fd ["self", "flat", "first", "more", "limit"] (sp_Bound_init K) := by
  refine F.ok sc_Bound_init (fun vs H Q E h => ?_) (fun cdv A outer s0 H vs Q E hr h => ?_)
  · obtain ⟨p, dx, a, b, c, fl, fi, mo, rfl, _⟩ := h
    rfl
  obtain ⟨p, dx, a, b, c, fl, fi, mo, rfl, hp, ha, hb, hc, g1, g2, g3, q⟩ := h
  refine ⟨_, PSs.nox (pss_cons (ps_for PassesOwn.never rfl (pi_tup (pe_tupF (pa_cons (pv 1) (pa_cons (pv 2) (pa_cons (pv 3) pa_nil))))) (pg_name (i := 5) sc_Bound_init.nd rfl (Or.inl rfl)) (pss_one (ps_if (pt_cmpR op_lt (pe_fldc T.cl_Ratio T.n_Ratio_num (pv 5)) pe_int (nomark _)) pss_never pss_nil)))
      (pss_cons (ps_if (PW.pt (pw_and (pt_cmpR op_notN (pv 4) pe_non (nomark _)) (pw_and1 (pt_cmpR op_lt (pv 4) pe_int (nomark _))))) pss_never pss_nil)
      (pss_cons (ps_fldc T.cl_Bound T.n_Bound_flat (pv 0) (pv 1))
      (pss_cons (ps_fldc T.cl_Bound T.n_Bound_first (pv 0) (pv 2))
      (pss_cons (ps_fldc T.cl_Bound T.n_Bound_more (pv 0) (pv 3))
      (pss_one (ps_fldc T.cl_Bound T.n_Bound_limit (pv 0) (pv 4)))))))), ?_⟩
  walk_at "vc"
  rename_i t H1 f1 s1 tu
  refine y_forT tu (fun i σ' H' => H' = H1 ∧ ∃ z, σ' = [some (.ref p), some a, some b, some c, some .non, z]) ⟨rfl, none, rfl⟩ (fun i σ' H' _ z => z.1 ▸ tu) ?_ ?_
  · rintro i x σ' H' hi ⟨rfl, z, rfl⟩
    obtain ⟨r, hr1, hr2⟩ : ∃ r : Rat, RR K H' x r ∧ 0 ≤ r.num := by
      match i, hi with
      | 0, hi => cases hi; exact ⟨fl, ha.same s1, g1⟩
      | 1, hi => cases hi; exact ⟨fi, hb.same s1, g2⟩
      | 2, hi => cases hi; exact ⟨mo, hc.same s1, g3⟩
      | i + 3, hi => simp at hi
    walk_at "vc"
    exact ⟨rfl, _, rfl⟩
  · rintro σ' H' ⟨rfl, z, rfl⟩
    have hp1 := s1 _ _ hp
    walk_at "vc"
    refine ⟨rfl, ?_⟩
    walk_at "vc"
    rename_i H2 b2 e2 H3 b3 e3 H4 b4 e4 H5 b5 e5
    exact q _ ((((Same.buts s1 b2).trans b3).trans b4).trans b5) e5
theorem c_Bound_init (T : Tx K mg) : Cal P w K mg base 1 d_Bound_init ["self", "flat", "first", "more", "limit"] [] (sp_Bound_init K) :=
  Cal.ofD 1 T.d_Bound_init (by intro z; cases z) rfl (fun _ _ _ _ _ _ _ us its h1 h2 => match us, its, h1, h2 with | [_, _, _, _, _], [_], _, _ => ⟨_, rfl, rfl⟩) fun fd F => ok_Bound_init T F
theorem c_Bound_init1 (T : Tx K mg) : Cal P w K mg base 1 d_Bound_init ["self", "flat", "first", "more", "limit"] [.non] (sp_Bound_init K) :=
  Cal.ofD 0 T.d_Bound_init (by intro z; cases z) rfl (fun _ _ _ _ _ _ _ us its h1 h2 => match us, its, h1, h2 with | [_, _, _, _], [_], _, _ => ⟨_, rfl, rfl⟩) fun fd F => ok_Bound_init T F
theorem ok_nothing (T : Tx K mg) {fd : FuncData} (F : FnX K d_nothing fd) : FnOk P w K mg base CX0 3 (He.fAd K d_nothing.at_) fd [] (sp_nothing K) := by
  refine F.ok sc_nothing (fun vs H Q E h => ?_) (fun cdv A outer s0 H vs Q E hr h => ?_)
  · obtain ⟨rfl, _⟩ := h
    rfl
  obtain ⟨rfl, q⟩ := h
  refine ⟨_, PSs.nox (pss_one (ps_ret (pe_mkc (c_Bound_init1 T) T.mk_Bound (hr.mono (by omega)) rfl T.g_Bound (pa_cons (pe_mkc (c_Ratio_init1 T) T.mk_Ratio (hr.mono (by omega)) rfl T.g_Ratio (pa_cons pe_int pa_nil)) (pa_cons (pe_mkc (c_Ratio_init1 T) T.mk_Ratio (hr.mono (by omega)) rfl T.g_Ratio (pa_cons pe_int pa_nil)) (pa_cons (pe_mkc (c_Ratio_init1 T) T.mk_Ratio (hr.mono (by omega)) rfl T.g_Ratio (pa_cons pe_int pa_nil)) pa_nil)))))), ?_⟩
  walk_at "vc"
  refine y_mkR' (r := 0) (by decide) (by decide) (by decide) (by decide +kernel) fun v1 H1 s1 h1 => ?_
  walk_at "vc"
  refine y_mkR' (r := 0) (by decide) (by decide) (by decide) (by decide +kernel) fun v2 H2 s2 h2 => ?_
  walk_at "vc"
  refine y_mkR' (r := 0) (by decide) (by decide) (by decide) (by decide +kernel) fun v3 H3 s3 h3 => ?_
  walk_at "vc"
  exact y_mkBd ((h1.same s2).same s3) (h2.same s3) h3 (by decide) (by decide) (by decide) fun v H' s h => q v H' (((s1.trans s2).trans s3).trans s) h
theorem c_nothing (T : Tx K mg) : Cal P w K mg base 3 d_nothing [] [] (sp_nothing K) :=
  Cal.of T.d_nothing rfl rfl (fun _ _ _ _ _ _ us hl => match us, hl with | [], _ => rfl) fun fd F => ok_nothing T F
theorem ok_Bound_plus (T : Tx K mg) {fd : FuncData} (F : FnX K d_Bound_plus fd) : FnOk P w K mg base CX0 4 (He.fAd K d_Bound_plus.at_) fd ["self", "other"] (sp_Bound_plus K) := by
  refine F.ok sc_Bound_plus (fun vs H Q E h => ?_) (fun cdv A outer s0 H vs Q E hr h => ?_)
  · obtain ⟨x, y, fl, fi, mo, fl', fi', mo', rfl, _⟩ := h
    rfl
  obtain ⟨x, y, fl, fi, mo, fl', fi', mo', rfl, hx, hy, m1, m2, m3, m4, m5, m6, g1, g2, g3, q⟩ := h
  obtain ⟨p, dx, a, b, c, rfl, e1, k1, k2, k3⟩ := id hx
  obtain ⟨p', dx', a', b', c', rfl, e1', k1', k2', k3'⟩ := id hy
  refine ⟨_, PSs.nox (pss_cons (ps_set (i := 2) sc_Bound_plus.nd rfl (Or.inl rfl) (pe_fldc T.cl_Bound T.n_Bound_limit (pv 0)))
      (pss_cons (ps_if (PW.pt (pw_or (pt_cmpR op_isN (pv 2) pe_non (nomark _)) (pw_or1 (PW.pt (pw_and (pt_cmpR op_notN (pe_fldc T.cl_Bound T.n_Bound_limit (pv 1)) pe_non (nomark _)) (pw_and1 (pt_cmpR op_lt (pe_fldc T.cl_Bound T.n_Bound_limit (pv 1)) (pv 2) (nomark _)))))))) (pss_one (ps_set (i := 2) sc_Bound_plus.nd rfl (Or.inl rfl) (pe_fldc T.cl_Bound T.n_Bound_limit (pv 1)))) pss_nil)
      (pss_one (ps_ret (pe_mkc (c_Bound_init T) T.mk_Bound (hr.mono (by omega)) rfl T.g_Bound (pa_cons (pe_op (op_own (c_Ratio_add T) T.m_Ratio_add T.self_Ratio (hr.mono (by omega))) (pe_fldc T.cl_Bound T.n_Bound_flat (pv 0)) (pe_fldc T.cl_Bound T.n_Bound_flat (pv 1))) (pa_cons (pe_op (op_own (c_Ratio_add T) T.m_Ratio_add T.self_Ratio (hr.mono (by omega))) (pe_fldc T.cl_Bound T.n_Bound_first (pv 0)) (pe_fldc T.cl_Bound T.n_Bound_first (pv 1))) (pa_cons (pe_op (op_own (c_Ratio_add T) T.m_Ratio_add T.self_Ratio (hr.mono (by omega))) (pe_fldc T.cl_Bound T.n_Bound_more (pv 0)) (pe_fldc T.cl_Bound T.n_Bound_more (pv 1))) (pa_cons (pv 2) pa_nil))))))))), ?_⟩
  walk_at "vc"
  refine ⟨rfl, ?_⟩
  walk_at "vc"
  refine y_rop k1 k1' m1 m4 fun v1 H1 s1 h1 => ?_
  walk_at "vc"
  refine y_rop (k2.same s1) (k2'.same s1) m2 m5 fun v2 H2 s2 h2 => ?_
  walk_at "vc"
  refine y_rop ((k3.same s1).same s2) ((k3'.same s1).same s2) m3 m6 fun v3 H3 s3 h3 => ?_
  walk_at "vc"
  exact y_mkBd ((h1.same s2).same s3) (h2.same s3) h3 g1 g2 g3 fun v H' s h => q v H' (((s1.trans s2).trans s3).trans s) h
theorem c_Bound_plus (T : Tx K mg) : Cal P w K mg base 4 d_Bound_plus ["self", "other"] [] (sp_Bound_plus K) :=
  Cal.of T.d_Bound_plus rfl rfl (fun _ _ _ _ _ _ us hl => match us, hl with | [_, _], _ => rfl) fun fd F => ok_Bound_plus T F
theorem ok_Bound_at (T : Tx K mg) {fd : FuncData} (F : FnX K d_Bound_at fd) : FnOk P w K mg base CX0 4 (He.fAd K d_Bound_at.at_) fd ["self", "calls"] (sp_Bound_at K) := by
  refine F.ok sc_Bound_at (fun vs H Q E h => ?_) (fun cdv A outer s0 H vs Q E hr h => ?_)
  · obtain ⟨x, fl, fi, mo, k, rfl, _⟩ := h
    rfl
  obtain ⟨x, fl, fi, mo, k, rfl, hx, ok, q⟩ := h
  obtain ⟨p, dx, a, b, c, rfl, e1, k1, k2, k3⟩ := id hx
  obtain ⟨o0, o1, o2, o3, o4, o5, o6, o7, o8, o9⟩ := id ok
  refine ⟨_, PSs.nox (pss_cons (ps_if (pt_cmpR op_eq (pv 1) pe_int (nomark _)) (pss_one (ps_ret (pe_mkc (c_Ratio_init1 T) T.mk_Ratio (hr.mono (by omega)) rfl T.g_Ratio (pa_cons pe_int pa_nil)))) pss_nil)
      (pss_cons (ps_if (PW.pt (pw_and (pt_cmpR op_notN (pe_fldc T.cl_Bound T.n_Bound_limit (pv 0)) pe_non (nomark _)) (pw_and1 (pt_cmpR op_gt (pv 1) (pe_fldc T.cl_Bound T.n_Bound_limit (pv 0)) (nomark _))))) (pss_one (ps_ret (pe_mkc (c_Ratio_init1 T) T.mk_Ratio (hr.mono (by omega)) rfl T.g_Ratio (pa_cons pe_int pa_nil)))) pss_nil)
      (pss_cons (ps_set (i := 2) sc_Bound_at.nd rfl (Or.inl rfl) (pe_op (op_own (c_Ratio_add T) T.m_Ratio_add T.self_Ratio (hr.mono (by omega))) (pe_op (op_own (c_Ratio_add T) T.m_Ratio_add T.self_Ratio (hr.mono (by omega))) (pe_fldc T.cl_Bound T.n_Bound_flat (pv 0)) (pe_op (op_own (c_Ratio_mul T) T.m_Ratio_mul T.self_Ratio (hr.mono (by omega))) (pe_fldc T.cl_Bound T.n_Bound_first (pv 0)) (pe_mkc (c_Ratio_init1 T) T.mk_Ratio (hr.mono (by omega)) rfl T.g_Ratio (pa_cons (pv 1) pa_nil)))) (pe_op (op_own (c_Ratio_mul T) T.m_Ratio_mul T.self_Ratio (hr.mono (by omega))) (pe_fldc T.cl_Bound T.n_Bound_more (pv 0)) (pe_mkc (c_Ratio_init1 T) T.mk_Ratio (hr.mono (by omega)) rfl T.g_Ratio (pa_cons (pe_op op_fdiv (pe_op op_mul (pv 1) (pe_op op_sub (pv 1) pe_int)) pe_int) pa_nil)))))
      (pss_cons (ps_if (pt_val (pe_metc (c_Ratio_below T) (pe_mkc (c_Ratio_init1 T) T.mk_Ratio (hr.mono (by omega)) rfl T.g_Ratio (pa_cons pe_int pa_nil)) T.cl_Ratio T.m_Ratio_below (hr.mono (by omega)) (pa_cons (pv 2) pa_nil))) (pss_one (ps_ret (pe_mkc (c_Ratio_init1 T) T.mk_Ratio (hr.mono (by omega)) rfl T.g_Ratio (pa_cons pe_int pa_nil)))) pss_nil)
      (pss_one (ps_ret (pv 2))))))), ?_⟩
  unfold atR at q
  by_cases hk : k = 0
  · subst hk
    walk_at "vc"
    exact y_mkR' (r := 0) (by decide) (by decide) (by decide) (by decide +kernel) fun v1 H1 s1 h1 => q v1 H1 s1 h1
  rw [if_neg hk] at q
  walk_at "vc"
  refine ite_f (decide_eq_false fun z => by injection z with z; omega) ?_
  walk_at "vc"
  refine ⟨rfl, ?_⟩
  walk_at "vc"
  refine y_mkR' (r := mkRat k 1) (by decide) (by omega) (by decide) rfl fun v1 H1 s1 h1 => ?_
  walk_at "vc"
  refine y_rop (k2.same s1) h1 o2 o4 fun v2 H2 s2 h2 => ?_
  refine y_rop ((k1.same s1).same s2) h2 o1 o6 fun v3 H3 s3 h3 => ?_
  have s03 := (s1.trans s2).trans s3
  walk_at "vc"
  refine y_I (cm_of (by omega)) ?_
  walk_at "vc"
  refine y_I (show CDiv _ 2 from ⟨by decide, by decide⟩) ?_
  walk_at "vc"
  have bk : ((k : Int) * ((k : Int) - 1) / 2).natAbs < 2 ^ 200 := Nat.lt_trans (Nat.lt_of_le_of_lt (Int.natAbs_ediv_le_natAbs _ _) (mul_lt2 (m := 20) (n := 20) (by omega) (by omega))) (by decide)
  refine y_mkR' (r := mkRat ((k : Int) * ((k : Int) - 1) / 2) 1) (by decide) bk (by decide) rfl fun v4 H4 s4 h4 => ?_
  walk_at "vc"
  refine y_rop ((k3.same s03).same s4) h4 o3 o5 fun v5 H5 s5 h5 => ?_
  refine y_rop ((h3.same s4).same s5) h5 o7 o8 fun v6 H6 s6 h6 => ?_
  have s06 := ((s03.trans s4).trans s5).trans s6
  walk_at "vc"
  refine y_mkR' (r := 1) (by decide) (by decide) (by decide) (by decide +kernel) fun v7 H7 s7 h7 => ?_
  obtain ⟨pr, dxr, rfl, hpr⟩ := id h7
  walk_at "vc"
  refine ⟨_, _, _, _, rfl, h7, h6.same s7, by decide +kernel, o9, ?_⟩
  walk_at "vc"
  refine ite_c (fun hlt => ?_) (fun hge => ?_)
  · rw [if_pos (of_decide_eq_true hlt)] at q
    walk_at "vc"
    exact y_mkR' (r := 1) (by decide) (by decide) (by decide) (by decide +kernel) fun v1 H1 s1 h1 => q v1 H1 ((s06.trans s7).trans s1) h1
  · rw [if_neg (of_decide_eq_false hge)] at q
    walk_at "vc"
    exact q _ _ (s06.trans s7) (h6.same s7)
theorem c_Bound_at (T : Tx K mg) : Cal P w K mg base 4 d_Bound_at ["self", "calls"] [] (sp_Bound_at K) :=
  Cal.of T.d_Bound_at rfl rfl (fun _ _ _ _ _ _ us hl => match us, hl with | [_, _], _ => rfl) fun fd F => ok_Bound_at T F
theorem ok_highest (T : Tx K mg) {fd : FuncData} (F : FnX K d_highest fd) : FnOk P w K mg base CX0 3 (He.fAd K d_highest.at_) fd ["ratios"] (sp_highest K) := by
  refine F.ok sc_highest (fun vs H Q E h => ?_) (fun cdv A outer s0 H vs Q E hr h => ?_)
  · obtain ⟨a, xs, rs, rfl, _⟩ := h
    rfl
  obtain ⟨a, xs, rs, rfl, ha, hx, m, q⟩ := h
  refine ⟨_, PSs.nox (pss_cons (ps_set (i := 1) sc_highest.nd rfl (Or.inl rfl) (pe_mkc (c_Ratio_init1 T) T.mk_Ratio (hr.mono (by omega)) rfl T.g_Ratio (pa_cons pe_int pa_nil)))
      (pss_cons (ps_for PassesOwn.never rfl (pi_list (pv 0)) (pg_name (i := 2) sc_highest.nd rfl (Or.inl rfl)) (pss_one (ps_if (pt_val (pe_metc (c_Ratio_below T) (pv 1) T.cl_Ratio T.m_Ratio_below (hr.mono (by omega)) (pa_cons (pv 2) pa_nil))) (pss_one (ps_set (i := 1) sc_highest.nd rfl (Or.inl rfl) (pv 2))) pss_nil)))
      (pss_one (ps_ret (pv 1))))), ?_⟩
  walk_at "vc"
  refine y_mkR' (r := 0) (by decide) (by decide) (by decide) (by decide +kernel) fun v1 H1 s1 h1 => ?_
  walk_at "vc"
  refine y_forL (s1 _ _ ha) (fun i σ' H' => ∃ r z v, σ' = [some (.ref a), some v, z] ∧ H' = H1 ∧ RR K H1 v r ∧ Sm r ∧ hiR (rs.drop i) r = hiR rs 0) ⟨0, none, v1, rfl, rfl, h1, by decide +kernel, rfl⟩ (fun i σ' H' _ ⟨_, _, _, _, e, _⟩ => e ▸ s1 _ _ ha) ?_ ?_
  · rintro i x σ' H' hi ⟨r, z, v, rfl, rfl, hv, hm, hh⟩
    obtain ⟨r', hr1, hr2⟩ := RRL.get hx hi
    obtain ⟨hi1, hi2⟩ := List.getElem?_eq_some_iff.mp hr1
    rw [List.drop_eq_getElem_cons hi1, hi2] at hh
    obtain ⟨pr, dxr, rfl, hpr⟩ := id hv
    walk_at "vc"
    refine ⟨_, _, _, _, rfl, hv, hr2.same s1, hm, m r' (List.mem_of_getElem? hr1), ?_⟩
    walk_at "vc"
    have hh : hiR (rs.drop (i + 1)) (if r < r' then r' else r) = hiR rs 0 := hh
    refine ite_c (fun hlt => ?_) (fun hge => ?_)
    · rw [if_pos (of_decide_eq_true hlt)] at hh
      walk_at "vc"
      exact ⟨r', _, _, rfl, rfl, hr2.same s1, m r' (List.mem_of_getElem? hr1), hh⟩
    · rw [if_neg (of_decide_eq_false hge)] at hh
      walk_at "vc"
      exact ⟨r, _, _, rfl, rfl, hv, hm, hh⟩
  · rintro σ' H' ⟨r, z, v, rfl, rfl, hv, hm, hh⟩
    rw [Paired.length hx, List.drop_length] at hh
    walk_at "vc"
    have hh : r = hiR rs 0 := hh
    rw [← hh] at q
    exact q _ _ s1 hv
theorem c_highest (T : Tx K mg) : Cal P w K mg base 3 d_highest ["ratios"] [] (sp_highest K) :=
  Cal.of T.d_highest rfl rfl (fun _ _ _ _ _ _ us hl => match us, hl with | [_], _ => rfl) fun fd F => ok_highest T F
end
end Tn
set_option Elab.async false
set_option linter.all false
set_option maxRecDepth 100000
set_option maxHeartbeats 4000000
set_option pp.maxSteps 400
namespace Tn
open PySem PySem.Spec L2
local macro_rules | `(tactic| walk_at "tz") => `(tactic| first
  | ((refine' Tz.same ?s); (case s => with_reducible assumption))
  | ((refine' Tz.but ?b ?h ?n); (case b => with_reducible assumption); (case h => walk_at "look"); (case n => (intro o v z; cases z))))
local macro_rules | `(tactic| walk_at "fz") => `(tactic| first
  | ((refine' Fz.same ?s); (case s => with_reducible assumption))
  | ((refine' Fz.but ?b ?h ?n); (case b => with_reducible assumption); (case h => walk_at "look"); (case n => first | exact nf_lst | exact nf_dK | exact nf_ext | assumption)))
local macro_rules | `(tactic| walk_at "look") => `(tactic| first
  | with_reducible assumption
  | ((with_reducible refine' Same.app ?s ?m); (case s => with_reducible assumption); (case m => walk_at "look"))
  | ((with_reducible refine' RR.fz ?z ?m); (case z => walk_at "fz"); (case m => walk_at "look"))
  | ((with_reducible refine' Rp.tz ?z ?m); (case z => walk_at "tz"); (case m => walk_at "look"))
  | ((with_reducible refine' TU.tz ?z ?m); (case z => walk_at "tz"); (case m => walk_at "look"))
  | ((with_reducible refine' RpL.tz ?z ?m); (case z => walk_at "tz"); (case m => walk_at "look"))
  | ((with_reducible refine' GM.fz ?z ?m); (case z => walk_at "fz"); (case m => walk_at "look"))
  | ((with_reducible refine' But.app' ?b ?n ?m); (case b => with_reducible assumption); (case n => first | assumption | (refine Ne.symm ?_; assumption)); (case m => walk_at "look"))
  | ((with_reducible refine' But.app ?b ?l ?d ?m); (case b => with_reducible assumption); (case m => walk_at "look"); (case l => walk_at "look"); (case d => (intro z; cases z))))
local macro_rules | `(tactic| walk_at "rp") => `(tactic| first
  | (with_reducible assumption)
  | walk_at "look"
  | exact Rp.bl _ | exact Rp.int _ | exact Rp.str _ | exact Rp.non
  | ((refine' Rp.tup ?h ?l); (case h => walk_at "look"); (case l => walk_at "rpl")))
local macro_rules | `(tactic| walk_at "rpl") => `(tactic| first
  | exact RpL.nil
  | ((refine' RpL.cons ?h ?l); (case h => walk_at "rp"); (case l => walk_at "rpl")))
local macro_rules | `(tactic| walk_at "vc") => `(tactic| repeat (first
  | with_reducible refine' x_seq ?_
  | with_reducible refine' x_ifS ?_
  | with_reducible refine' x_asg ?_
  | with_reducible refine' x_drop ?_
  | with_reducible refine' x_ret ?_
  | with_reducible refine' x_name ?_
  | with_reducible refine' x_c ?_
  | ((with_reducible refine' x_var ?h ?_); (case h => rfl))
  | with_reducible refine' x_op ?_
  | with_reducible refine' x_un ?_
  | with_reducible refine' x_tup ?_
  | with_reducible refine' x_lst ?_
  | ((with_reducible refine' x_gtup ?h ?l ?_); (case h => walk_at "look"); (case l => rfl))
  | ((with_reducible refine' x_gtup' ?h ?l ?_); (case h => walk_at "look"); (case l => rfl))
  | with_reducible refine' x_gcons ?_
  | with_reducible refine' x_gnil ?_
  | with_reducible refine' x_nil ?_
  | with_reducible refine' x_cons ?_
  | with_reducible refine' x_call ?_
  | with_reducible refine' x_meth ?_
  | ((with_reducible refine' x_methv ?h ?l ?_); (case h => walk_at "look"); (case l => first | rfl | decide +kernel))
  | with_reducible refine' x_make ?_
  | with_reducible refine' x_cb ?_
  | with_reducible refine' x_test ?_
  | with_reducible refine' x_B ?_
  | with_reducible refine' x_and ?_
  | with_reducible refine' x_or ?_
  | with_reducible refine' x_not ?_
  | with_reducible refine' x_if ?_
  | with_reducible refine' x_andV ?_
  | with_reducible refine' x_orV ?_
  | with_reducible refine' x_notV ?_
  | with_reducible refine' x_next ?_
  | with_reducible refine' x_gfldc ?_
  | with_reducible refine' x_bmF ?_
  | with_reducible refine' x_bmF0 ?_
  | ((with_reducible refine' y_tyL ?h ?_); (case h => walk_at "look"))
  | ((with_reducible refine' y_tyD ?h ?_); (case h => walk_at "look"))
  | ((with_reducible refine' y_lenL ?h ?_); (case h => walk_at "look"))
  | ((with_reducible refine' y_lenR ?h ?_); (case h => walk_at "look"))
  | with_reducible refine' x_forT ?_
  | with_reducible refine' x_forL ?_
  | with_reducible refine' x_lcT ?_
  | with_reducible refine' x_lcL ?_
  | ((with_reducible refine' y_tupleL ?h ?_); (case h => walk_at "look"); intro _ _ _ _ _)
  | ((with_reducible refine' y_tupleR ?h ?_); (case h => walk_at "look"))
  | ((with_reducible refine' y_tupleT ?h ?_); (case h => walk_at "look"))
  | with_reducible refine' x_cont ?_
  | with_reducible refine' x_dget ?_
  | with_reducible refine' x_din ?_
  | with_reducible refine' x_dput ?_
  | ((with_reducible refine' x_dnewN ?_); intro _ _ _ _ _)
  | with_reducible refine' x_nget2 ?_
  | with_reducible refine' x_nput ?_
  | with_reducible refine' x_lcN ?_
  | with_reducible refine' x_lcKF ?_
  | with_reducible refine' x_itemsN ?_
  | ((with_reducible refine' x_dnewK ?_); intro _ _ _ _ _)
  | with_reducible refine' x_forRev ?_
  | with_reducible refine' x_sl ?_
  | with_reducible refine' x_nopart ?_
  | with_reducible refine' x_part ?_
  | with_reducible refine' x_partI ?_
  | with_reducible refine' x_revL ?_
  | with_reducible refine' x_sfldc ?_
  | with_reducible refine' x_bl ?_
  | ((with_reducible refine' x_fldc ?h ?l ?_); (case h => walk_at "look"); (case l => first | rfl | decide +kernel))
  | ((with_reducible refine' x_setc ?h ?l ?_); (case h => walk_at "look"); (case l => exact Nat.le_of_ble_eq_true rfl); intro _ _ _)
  | ((with_reducible refine' y_num ?h ?_); (case h => walk_at "look"))
  | ((with_reducible refine' y_den ?h ?_); (case h => walk_at "look"))
  | with_reducible refine' y_I0 ?_
  | ((with_reducible refine' y_ixS ?h ?e ?a ?_); (case h => walk_at "look"); (case e => rfl); (case a => rfl))
  | ((with_reducible refine' y_ixI ?h ?e ?a ?_); (case h => walk_at "look"); (case e => rfl); (case a => rfl))
  | ((with_reducible refine' y_ixB ?h ?e ?a ?_); (case h => walk_at "look"); (case e => rfl); (case a => rfl))
  | ((with_reducible refine' y_ixR ?h ?e ?a ?_); (case h => walk_at "look"); (case e => rfl); (case a => rfl); intro _ _)
  | ((with_reducible refine' y_ixT ?h ?a ?_); (case h => walk_at "look"); (case a => rfl))
  | ((with_reducible refine' y_eq ?s ?_); (case s => rfl))
  | ((with_reducible refine' y_ne ?s ?_); (case s => rfl))
  | ((with_reducible refine' x_rtup ?l ?_); (case l => exact Nat.le_of_ble_eq_true rfl); intro _ _ _ _ _)
  | ((with_reducible refine' x_rlst ?l ?_); (case l => exact Nat.le_of_ble_eq_true rfl); intro _ _ _ _ _)
  | ((with_reducible refine' ite_t ?h ?_); (case h => first | with_reducible rfl | assumption | exact decide_eq_true (by omega) | decide +kernel | rfl))
  | ((with_reducible refine' ite_f ?h ?_); (case h => first | with_reducible rfl | assumption | exact decide_eq_false (by omega) | decide +kernel | rfl))))
/-- a promise that nobody may claim -/
def spNo : Sp := fun _ _ _ _ => False
abbrev aftD : PyData := .tuple [.str "after", .tuple []]
/-- statements, what they hold -/
inductive HS (n s : Nat) : Nat → PyData → Bool → Prop
  | draw (k : Nat) : HS n s k (sDraw n) false
  | put (k : Nat) : HS n s k sPut false
  | aft (k : Nat) : HS n s k (sAfter n s) false
  | bad (k : Nat) : HS n s k sBad true
  | if_ (k : Nat) : HS n s (k + 1) sIf true
inductive CS (n s : Nat) : Nat → PyData → Int → Prop
  | draw (k : Nat) : CS n s k (sDraw n) 0
  | put (k : Nat) : CS n s k sPut 1
  | aft (k : Nat) : CS n s k (sAfter n s) 0
  | bad (k : Nat) : CS n s k sBad 0
  | if_ (k : Nat) : CS n s (k + 1) sIf 0
inductive BS (n s : Nat) : Nat → PyData → PyData → Prop
  | draw (k : Nat) : BS n s k (sDraw n) (sDraw n)
  | put (k : Nat) : BS n s k sPut sPut
  | aft (k : Nat) : BS n s k (sAfter n s) aftD
  | bad (k : Nat) : BS n s k sBad sBad
  | if_ (k : Nat) : BS n s (k + 1) sIf sIf
def sp_has_bad (K : PySem.W.Frag) (k : Nat) : Sp := fun vs H Q _ => ∃ (x : V) (ds : List PyData) (bs : List Bool) (n s : Nat), vs = [x] ∧ Rp H x (.tuple ds) ∧ Paired (HS n s k) ds bs ∧ Q (.bl (bs.any id)) H
def sp_puts (K : PySem.W.Frag) (k : Nat) : Sp := fun vs H Q _ => ∃ (x : V) (ds : List PyData) (cs : List Int) (n s : Nat), vs = [x, .str "t"] ∧ Rp H x (.tuple ds) ∧ Paired (CS n s k) ds cs ∧ Q (.int cs.sum) H
def sp_bare (K : PySem.W.Frag) (k : Nat) : Sp := fun vs H Q _ => ∃ (x : V) (ds os : List PyData) (n s : Nat), vs = [x] ∧ Rp H x (.tuple ds) ∧ Paired (BS n s k) ds os ∧ ds.length ≤ 900 ∧ ∀ v H', Same H H' → Rp H' v (.tuple os) → Q v H'
theorem pget_l {α β : Type} {F : α → β → Prop} : ∀ {l : List α} {m : List β} {i : Nat} {a : α}, Paired F l m → l[i]? = some a → ∃ b, m[i]? = some b ∧ F a b
  | _, _, _, _, .nil, e => by simp at e
  | _, _, 0, _, .cons h _, e => by
    simp at e
    subst e
    exact ⟨_, rfl, h⟩
  | _, _, i + 1, _, .cons _ t, e => by
    obtain ⟨b, h1, h2⟩ := pget_l (i := i) t (by simpa using e)
    exact ⟨b, by simpa using h1, h2⟩
theorem take_snoc {α : Type} {l : List α} {i : Nat} {a : α} (h : l[i]? = some a) : l.take (i + 1) = l.take i ++ [a] := by
  rw [List.take_add_one, h]
  rfl
section
variable {P : Program} {w : World} {K : PySem.W.Frag} {mg : Str → Option Value} {base : Heap}
theorem sc_has_bad : FnScope ["block", "statement"] ["block"] (defScope s_has_bad) := ⟨rfl, rfl, rfl, by decide +kernel, rfl, by decide +kernel, by decide +kernel⟩
theorem sc_puts : FnScope ["block", "table", "count", "statement"] ["block", "table"] (defScope s_puts) := ⟨rfl, rfl, rfl, by decide +kernel, rfl, by decide +kernel, by decide +kernel⟩
theorem sc_bare : FnScope ["block", "result", "statement"] ["block"] (defScope s_bare) := ⟨rfl, rfl, rfl, by decide +kernel, rfl, by decide +kernel, by decide +kernel⟩
theorem n_has_bad (T : Tx K mg) : Cal P w K mg base 1 d_has_bad ["block"] [] spNo := Cal.of T.d_has_bad rfl rfl (fun _ _ _ _ _ _ us hl => match us, hl with | [_], _ => rfl) fun fd F => F.ok sc_has_bad (fun _ _ _ _ h => h.elim) (fun _ _ _ _ _ _ _ _ _ h => h.elim)
theorem n_puts (T : Tx K mg) : Cal P w K mg base 1 d_puts ["block", "table"] [] spNo := Cal.of T.d_puts rfl rfl (fun _ _ _ _ _ _ us hl => match us, hl with | [_, _], _ => rfl) fun fd F => F.ok sc_puts (fun _ _ _ _ h => h.elim) (fun _ _ _ _ _ _ _ _ _ h => h.elim)
theorem n_bare (T : Tx K mg) : Cal P w K mg base 1 d_bare ["block"] [] spNo := Cal.of T.d_bare rfl rfl (fun _ _ _ _ _ _ us hl => match us, hl with | [_], _ => rfl) fun fd F => F.ok sc_bare (fun _ _ _ _ h => h.elim) (fun _ _ _ _ _ _ _ _ _ h => h.elim)
/-- one step of has_bad's depth -/
def prevH (K : PySem.W.Frag) : Nat → Sp
  | 0 => spNo
  | k + 1 => sp_has_bad K k
theorem ok_has_bad (T : Tx K mg) (k : Nat) (ih : Cal P w K mg base (k + 1) d_has_bad ["block"] [] (prevH K k)) {fd : FuncData} (F : FnX K d_has_bad fd) : FnOk P w K mg base CX0 (k + 2) (He.fAd K d_has_bad.at_) fd ["block"] (sp_has_bad K k) := by
  refine F.ok sc_has_bad (fun vs H Q E h => ?_) (fun cdv A outer s0 H vs Q E hr h => ?_)
  · obtain ⟨x, ds, bs, n, s, rfl, _⟩ := h
    rfl
  obtain ⟨x, ds, bs, n, s, rfl, hx, pr, q⟩ := h
  refine ⟨_, PSs.nox (pss_cons (ps_for PassesOwn.never rfl (pi_tup (pv 0)) (pg_name (i := 1) sc_has_bad.nd rfl (Or.inl rfl)) (pss_one (ps_if (PW.pt (pw_or (pt_cmpR op_eq (pe_ix ix_tupF (pv 1) pe_int (fun _ _ => rfl)) pe_str (nomark _)) (pw_or1 (PW.pt (pw_and (pt_cmpR op_eq (pe_ix ix_tupF (pv 1) pe_int (fun _ _ => rfl)) pe_str (nomark _)) (pw_and1 (PW.pt (pw_or (pt_val (pe_cal ih (hr.mono (by omega)) rfl T.g_has_bad (pa_cons (pe_ix ix_tupF (pv 1) pe_int (fun _ _ => rfl)) pa_nil))) (pw_or1 (pt_val (pe_cal ih (hr.mono (by omega)) rfl T.g_has_bad (pa_cons (pe_ix ix_tupF (pv 1) pe_int (fun _ _ => rfl)) pa_nil)))))))))))) (pss_one (ps_ret pe_bl)) pss_nil)))
      (pss_one (ps_ret pe_bl))), ?_⟩
  walk_at "vc"
  refine y_forR hx (fun i σ' H' => H' = H ∧ (∃ z, σ' = [some x, z]) ∧ (bs.take i).any id = false) ⟨rfl, ⟨none, rfl⟩, rfl⟩ (fun i σ' H' z => z.1 ▸ Fz.refl) ?_ ?_
  · rintro i d v σ' H' hi hd ⟨rfl, ⟨z, rfl⟩, hb⟩
    obtain ⟨b, hbi, hs⟩ := pget_l pr hi
    have hstop : b = true → bs.any id = true := fun e => List.any_eq_true.mpr ⟨b, List.mem_of_getElem? hbi, e⟩
    have hgo : b = false → (bs.take (i + 1)).any id = false := fun e => by rw [take_snoc hbi, List.any_append, hb, e]; rfl
    cases hs with
    | draw =>
      walk_at "vc"
      exact ⟨rfl, ⟨_, rfl⟩, hgo rfl⟩
    | put =>
      walk_at "vc"
      exact ⟨rfl, ⟨_, rfl⟩, hgo rfl⟩
    | aft =>
      walk_at "vc"
      exact ⟨rfl, ⟨_, rfl⟩, hgo rfl⟩
    | bad =>
      rw [hstop rfl] at q
      walk_at "vc"
      exact q
    | if_ k' =>
      rw [hstop rfl] at q
      walk_at "vc"
      rename_i v1 hv1
      refine ⟨v1, [sBad], [true], n, s, rfl, hv1, .cons (.bad _) .nil, ?_⟩
      walk_at "vc"
      exact q
  · rintro σ' H' ⟨rfl, ⟨z, rfl⟩, hb⟩
    rw [Paired.length pr, List.take_length] at hb
    rw [hb] at q
    walk_at "vc"
    exact q
theorem c_has_bad (T : Tx K mg) : Cal P w K mg base 3 d_has_bad ["block"] [] (sp_has_bad K 1) :=
  Cal.of T.d_has_bad rfl rfl (fun _ _ _ _ _ _ us hl => match us, hl with | [_], _ => rfl) fun fd F => ok_has_bad T 1 (Cal.of T.d_has_bad rfl rfl (fun _ _ _ _ _ _ us hl => match us, hl with | [_], _ => rfl) fun fd F => ok_has_bad T 0 (n_has_bad T) F) F
def prevP (K : PySem.W.Frag) : Nat → Sp
  | 0 => spNo
  | k + 1 => sp_puts K k
theorem ok_puts (T : Tx K mg) (k : Nat) (ih : Cal P w K mg base (k + 1) d_puts ["block", "table"] [] (prevP K k)) {fd : FuncData} (F : FnX K d_puts fd) : FnOk P w K mg base CX0 (k + 2) (He.fAd K d_puts.at_) fd ["block", "table"] (sp_puts K k) := by
  refine F.ok sc_puts (fun vs H Q E h => ?_) (fun cdv A outer s0 H vs Q E hr h => ?_)
  · obtain ⟨x, ds, bs, n, s, rfl, _⟩ := h
    rfl
  obtain ⟨x, ds, cs, n, s, rfl, hx, pr, q⟩ := h
  refine ⟨_, PSs.nox (pss_cons (ps_set (i := 2) sc_puts.nd rfl (Or.inl rfl) pe_int)
      (pss_cons (ps_for PassesOwn.never rfl (pi_tup (pv 0)) (pg_name (i := 3) sc_puts.nd rfl (Or.inl rfl)) (pss_one (ps_if (PW.pt (pw_and (pt_cmpR op_eq (pe_ix ix_tupF (pv 3) pe_int (fun _ _ => rfl)) pe_str (nomark _)) (pw_and1 (pt_cmpR op_eq (pe_ix ix_tupF (pv 3) pe_int (fun _ _ => rfl)) (pv 1) (nomark _))))) (pss_one (ps_set (i := 2) sc_puts.nd rfl (Or.inl rfl) (pe_op op_add (pv 2) pe_int))) (pss_one (ps_if (pt_cmpR op_eq (pe_ix ix_tupF (pv 3) pe_int (fun _ _ => rfl)) pe_str (nomark _)) (pss_one (ps_set (i := 2) sc_puts.nd rfl (Or.inl rfl) (pe_op op_add (pe_op op_add (pv 2) (pe_cal ih (hr.mono (by omega)) rfl T.g_puts (pa_cons (pe_ix ix_tupF (pv 3) pe_int (fun _ _ => rfl)) (pa_cons (pv 1) pa_nil)))) (pe_cal ih (hr.mono (by omega)) rfl T.g_puts (pa_cons (pe_ix ix_tupF (pv 3) pe_int (fun _ _ => rfl)) (pa_cons (pv 1) pa_nil)))))) pss_nil)))))
      (pss_one (ps_ret (pv 2))))), ?_⟩
  walk_at "vc"
  refine y_forR hx (fun i σ' H' => H' = H ∧ ∃ z, σ' = [some x, some (.str "t"), some (.int (cs.take i).sum), z]) ⟨rfl, none, rfl⟩ (fun i σ' H' z => z.1 ▸ Fz.refl) ?_ ?_
  · rintro i d v σ' H' hi hd ⟨rfl, z, rfl⟩
    obtain ⟨b, hbi, hs⟩ := pget_l pr hi
    have ht : (cs.take (i + 1)).sum = (cs.take i).sum + b := by rw [take_snoc hbi, List.sum_append]; simp
    cases hs with
    | draw =>
      walk_at "vc"
      exact ⟨rfl, _, by rw [ht, Int.add_zero]; rfl⟩
    | put =>
      walk_at "vc"
      exact ⟨rfl, _, by rw [ht]; rfl⟩
    | aft =>
      walk_at "vc"
      exact ⟨rfl, _, by rw [ht, Int.add_zero]; rfl⟩
    | bad =>
      walk_at "vc"
      exact ⟨rfl, _, by rw [ht, Int.add_zero]; rfl⟩
    | if_ k' =>
      walk_at "vc"
      rename_i v1 hv1
      refine ⟨v1, [sBad], [0], n, s, rfl, hv1, .cons (.bad _) .nil, ?_⟩
      walk_at "vc"
      rename_i v2 hv2
      refine ⟨v2, [], [], n, s, rfl, hv2, .nil, ?_⟩
      walk_at "vc"
      exact ⟨rfl, _, by rw [ht]; simp; rfl⟩
  · rintro σ' H' ⟨rfl, z, rfl⟩
    rw [Paired.length pr, List.take_length]
    walk_at "vc"
    exact q
theorem c_puts (T : Tx K mg) : Cal P w K mg base 3 d_puts ["block", "table"] [] (sp_puts K 1) :=
  Cal.of T.d_puts rfl rfl (fun _ _ _ _ _ _ us hl => match us, hl with | [_, _], _ => rfl) fun fd F => ok_puts T 1 (Cal.of T.d_puts rfl rfl (fun _ _ _ _ _ _ us hl => match us, hl with | [_, _], _ => rfl) fun fd F => ok_puts T 0 (n_puts T) F) F
def prevB (K : PySem.W.Frag) : Nat → Sp
  | 0 => spNo
  | k + 1 => sp_bare K k
theorem ok_bare (T : Tx K mg) (k : Nat) (ih : Cal P w K mg base (k + 1) d_bare ["block"] [] (prevB K k)) {fd : FuncData} (F : FnX K d_bare fd) : FnOk P w K mg base CX0 (k + 2) (He.fAd K d_bare.at_) fd ["block"] (sp_bare K k) := by
  refine F.ok sc_bare (fun vs H Q E h => ?_) (fun cdv A outer s0 H vs Q E hr h => ?_)
  · obtain ⟨x, ds, os, n, s, rfl, _⟩ := h
    rfl
  obtain ⟨x, ds, os, n, s, rfl, hx, pr, hl, q⟩ := h
  refine ⟨_, PSs.nox (pss_cons (ps_set (i := 1) sc_bare.nd rfl (Or.inl rfl) (pe_lst pa_nil))
      (pss_cons (ps_for PassesOwn.never rfl (pi_tup (pv 0)) (pg_name (i := 2) sc_bare.nd rfl (Or.inl rfl)) (pss_one (ps_if (pt_cmpR op_eq (pe_ix ix_tupF (pv 2) pe_int (fun _ _ => rfl)) pe_str (nomark _)) (pss_one (ps_expr (pe_bmF PySem.F.plainAttrs_list PySem.F.slot_list_append PySem.F.type_list_append mt_append (pv 1) (pa_cons (pe_tupF (pa_cons pe_str (pa_cons (pe_tupF pa_nil) pa_nil))) pa_nil)))) (pss_one (ps_if (pt_cmpR op_eq (pe_ix ix_tupF (pv 2) pe_int (fun _ _ => rfl)) pe_str (nomark _)) (pss_one (ps_expr (pe_bmF PySem.F.plainAttrs_list PySem.F.slot_list_append PySem.F.type_list_append mt_append (pv 1) (pa_cons (pe_tupF (pa_cons pe_str (pa_cons (pe_ix ix_tupF (pv 2) pe_int (fun _ _ => rfl)) (pa_cons (pe_cal ih (hr.mono (by omega)) rfl T.g_bare (pa_cons (pe_ix ix_tupF (pv 2) pe_int (fun _ _ => rfl)) pa_nil)) (pa_cons (pe_cal ih (hr.mono (by omega)) rfl T.g_bare (pa_cons (pe_ix ix_tupF (pv 2) pe_int (fun _ _ => rfl)) pa_nil)) pa_nil))))) pa_nil)))) (pss_one (ps_expr (pe_bmF PySem.F.plainAttrs_list PySem.F.slot_list_append PySem.F.type_list_append mt_append (pv 1) (pa_cons (pv 2) pa_nil)))))))))
      (pss_one (ps_ret (pe_callTy call_tupleF (by rfl) T.f_tuple (by decide +kernel) (pa_cons (pv 1) pa_nil)))))), ?_⟩
  walk_at "vc"
  rename_i lr H1 f1 s1 e1
  refine y_forR (hx.same s1) (fun i σ' H' => Same H H' ∧ Fz K H1 H' ∧ (∃ z, σ' = [some x, some (.ref lr), z]) ∧ ∃ xs, H' lr = some (.lst xs) ∧ RpL H' xs (os.take i)) ⟨s1, Fz.refl, ⟨none, rfl⟩, [], e1, by rw [List.take_zero]; exact .nil⟩ (fun i σ' H' z => z.2.1) ?_ ?_
  · rintro i d v σ' H' hi hd ⟨sH, zH, ⟨z, rfl⟩, xs, hxs, rxs⟩
    obtain ⟨o, hoi, hs⟩ := pget_l pr hi
    have hil : i < ds.length := (List.getElem?_eq_some_iff.mp hi).1
    have hxl : xs.length ≤ 1000 := by rw [rxs.len, List.length_take]; omega
    have fin : ∀ {H2 H3 : Hp} {u : V}, Same H' H2 → But lr H2 H3 → H3 lr = some (.lst (xs ++ [u])) → Rp H2 u o → Same H H3 ∧ Fz K H1 H3 ∧ ∃ xs, H3 lr = some (.lst xs) ∧ RpL H3 xs (os.take (i + 1)) := fun {H2 H3 u} s2 b3 e3 ru => by
      have zz : Tz H2 H3 := Tz.but b3 (s2 _ _ hxs) fun o v z => by cases z
      refine ⟨Same.but (sH.trans s2) f1 b3, zH.trans ((Fz.same s2).trans (Fz.but b3 (s2 _ _ hxs) nf_lst)), _, e3, ?_⟩
      rw [take_snoc hoi]
      exact ((rxs.same s2).tz zz).app (RpL.one (ru.tz zz))
    cases hs with
    | draw =>
      walk_at "vc"
      refine y_append hxs hxl fun H3 b3 e3 => ?_
      obtain ⟨g1, g2, g3⟩ := fin (fun _ _ e => e) b3 e3 hd
      exact ⟨g1, g2, ⟨_, rfl⟩, g3⟩
    | put =>
      walk_at "vc"
      refine y_append hxs hxl fun H3 b3 e3 => ?_
      obtain ⟨g1, g2, g3⟩ := fin (fun _ _ e => e) b3 e3 hd
      exact ⟨g1, g2, ⟨_, rfl⟩, g3⟩
    | bad =>
      walk_at "vc"
      refine y_append hxs hxl fun H3 b3 e3 => ?_
      obtain ⟨g1, g2, g3⟩ := fin (fun _ _ e => e) b3 e3 hd
      exact ⟨g1, g2, ⟨_, rfl⟩, g3⟩
    | aft =>
      walk_at "vc"
      rename_i p2 H2 f2 s2 t2 p3 H3 f3 s3 t3
      refine y_append (s3 _ _ (s2 _ _ hxs)) hxl fun H4 b4 e4 => ?_
      obtain ⟨g1, g2, g3⟩ := fin (s2.trans s3) b4 e4 (Rp.tup t3 (.cons (.str _) (.cons (Rp.tup (t2.same s3) .nil) .nil)))
      exact ⟨g1, g2, ⟨_, rfl⟩, g3⟩
    | if_ k' =>
      walk_at "vc"
      rename_i v1 hv1 v2 hv2
      refine ⟨v2, [sBad], [sBad], n, s, rfl, hv2, .cons (.bad _) .nil, by decide, fun v3 H3 s3 h3 => ?_⟩
      have hd3 := hd.same s3
      walk_at "vc"
      rename_i v4 hv4
      refine ⟨v4, [], [], n, s, rfl, hv4, .nil, by decide, fun v5 H5 s5 h5 => ?_⟩
      walk_at "vc"
      rename_i p6 H6 f6 s6 t6
      have s36 := s5.trans s6
      refine y_append (s6 _ _ (s5 _ _ (s3 _ _ hxs))) hxl fun H7 b7 e7 => ?_
      obtain ⟨g1, g2, g3⟩ := fin (s3.trans s36) b7 e7 (Rp.tup t6 (.cons (.str _) (.cons ((hv1.same s3).same s36) (.cons (h3.same s36) (.cons (h5.same s6) .nil)))))
      exact ⟨g1, g2, ⟨_, rfl⟩, g3⟩
  · rintro σ' H' ⟨sH, zH, ⟨z, rfl⟩, xs, hxs, rxs⟩
    rw [Paired.length pr, List.take_length] at rxs
    walk_at "vc"
    rename_i p8 H8 f8 s8 t8
    exact q _ _ (sH.trans s8) (Rp.tup t8 (rxs.same s8))
theorem c_bare (T : Tx K mg) : Cal P w K mg base 3 d_bare ["block"] [] (sp_bare K 1) :=
  Cal.of T.d_bare rfl rfl (fun _ _ _ _ _ _ us hl => match us, hl with | [_], _ => rfl) fun fd F => ok_bare T 1 (Cal.of T.d_bare rfl rfl (fun _ _ _ _ _ _ us hl => match us, hl with | [_], _ => rfl) fun fd F => ok_bare T 0 (n_bare T) F) F
end
end Tn
set_option Elab.async false
set_option linter.all false
set_option maxRecDepth 100000
set_option maxHeartbeats 4000000
set_option pp.maxSteps 400
namespace Tn
open PySem PySem.Spec L2 PyProof.Rows
/-! ### enumerate(a tuple) -/
section
set_option maxHeartbeats 4000000
theorem meets_enum1 {v : Value} {o : Obj} {H : Heap → Prop} (B : Begins v o H) :
    Meets (Builtin.«enumerate.__new__» ⟨[.type "enumerate", v], []⟩) (fun _ R s => H s.heap ∧
      R (.ok (.ret (.ref (s.heap.push o).objs.size))) { s with heap := (s.heap.push o).push { cls := .type "enumerate", data := .fields #[.none, .bool false, .ref s.heap.objs.size, rawInt 0, .none, .none] } }) :=
  .of_wp fun prog w A R s h => by
    obtain ⟨hp, g, d, tk, os⟩ := s; obtain ⟨h1, h⟩ := h
    have hsub := sub_enumerate
    have q1 : ∀ {A' : Around} {E : Value → Shared → Prop} {Q : Value → Shared → Prop}, Q (.ref hp.objs.size) ⟨hp.push o, g, d, tk, os⟩ → wpAny (model prog w) A' (pyIter v) Q E ⟨hp, g, d, tk, os⟩ :=
      fun q => B.iter prog w _ _ ⟨hp, g, d, tk, os⟩ _ h1 q
    wp_walk using q1
    refine wpAny_stack_any fun st => wpAny_pure ?_
    split
    · rename_i c _ _ _ _ _
      cases (c == Value.type "enumerate")
      · wp_walk using q1
        exact ⟨_, rfl, h⟩
      · wp_walk using q1
        exact ⟨_, rfl, h⟩
    · wp_walk using q1
      exact ⟨_, rfl, h⟩
theorem enum1_begins {prog : Program} {w : World} {A : Around} {E : Value → Shared → Prop} {s : Shared} {v : Value} {o : Obj} {H : Heap → Prop} {Q : Value → Shared → Prop} (B : Begins v o H) (h1 : H s.heap)
    (h : ∀ h', IsEnum h' (s.heap.objs.size + 1) s.heap.objs.size 0 .none → h'.get? s.heap.objs.size = some o → h'.objs.size = s.heap.objs.size + 2 →
      (∀ b o, s.heap.get? b = some o → h'.get? b = some o) → Q (.ref (s.heap.objs.size + 1)) { s with heap := h' }) :
    wpAny (model prog w) A (call (.type "enumerate") [v]) Q E s := by
  refine callType_new PySem.F.called_enumerate (by decide) (PySem.F.typeCall_enumerate_1 _) (PySem.F.newCall_enumerate_1 _) (fun obj => PySem.F.args_object_init_2 obj _) PySem.F.entry_enumerate_new
    (meets_enum1 B) ⟨h1, ?_⟩
  have hz : (s.heap.push o).objs.size = s.heap.objs.size + 1 := Heap.size_push ..
  show _ ∧ _
  rw [hz]
  have he : IsEnum ((s.heap.push o).push { cls := .type "enumerate", data := .fields #[.none, .bool false, .ref s.heap.objs.size, rawInt 0, .none, .none] }) (s.heap.objs.size + 1) s.heap.objs.size 0 .none := by
    have := Heap.get?_push_size (s.heap.push o) (o := { cls := .type "enumerate", data := .fields #[.none, .bool false, .ref s.heap.objs.size, rawInt 0, .none, .none] }) rfl
    rw [hz] at this; exact this
  refine ⟨⟨_, he, rfl⟩, h _ he (Heap.get?_push_of_some _ (Heap.get?_push_size _ B.free)) (by rw [Heap.size_push, hz]) fun b o x => Heap.get?_push_of_some _ (Heap.get?_push_of_some _ x)⟩
end
def ItE (a : Addr) : It :=
  ⟨fun i H => ∃ xs : List V, TU H a xs ∧ i < xs.length, fun i H v H' => ∃ T x xs, v = .ref T ∧ TU H a xs ∧ xs[i]? = some x ∧ H T = none ∧ Same H H' ∧ H' T = some (.tup [.int (i : Nat), x]), fun i H => ∃ xs : List V, TU H a xs ∧ xs.length = i⟩
theorem turn_enumT {P : Program} {w : World} {K : PySem.W.Frag} {elts : List Expr} {kk : Nat} {tpos : Pos} (a e it : Addr) :
    Turn P w K (.Tuple elts kk tpos) (ItE a) [e, it] e (fun i h => (∃ old, IsEnum h e it ((i : Nat) : Int) old) ∧ h.IsTupleIter it a i ∧ e ≠ it) where
  mem := by simp
  obj := fun i h st b hb => by
    obtain ⟨⟨old, he⟩, ⟨o, ho, hc, hd⟩, _⟩ := st
    have e' : b = e ∨ b = it := by simpa using hb
    rcases e' with z | z
    · rw [z]; exact ⟨_, he, fun v q => nomatch q⟩
    · rw [z]; exact ⟨o, ho, fun v q => by rw [hd] at q; cases q⟩
  keep := fun i h h' st k => let ⟨⟨old, he⟩, hi, hne⟩ := st; ⟨⟨old, k e (by simp) _ he⟩, hi.at fun o q => k it (by simp) o q, hne⟩
  item := by
    intro X hP hw hK hc i pins s σ H E I hf st hg
    subst hP hw hK
    obtain ⟨⟨old, he⟩, hit, hne⟩ := st
    obtain ⟨xs, hq, hi⟩ := hg
    obtain ⟨its, rv, p, hz⟩ := I.tuple (hq.sq (K := X.K))
    obtain ⟨oa, _, ha⟩ := id hq
    have nae : e ≠ a := (ne_of_none ha (hf e (by simp)).1).symm
    have nai : a ≠ it := ne_of_none ha (hf it (by simp)).1
    have hx : xs[i]? = some xs[i] := List.getElem?_eq_getElem hi
    obtain ⟨u, hu, ru⟩ := rv.get hx
    have hul : i < its.toArray.size := by simpa using (List.getElem?_eq_some_iff.mp hu).1
    have hel : e < s.heap.objs.size := Heap.lt_size he
    have hil : it < s.heap.objs.size := by obtain ⟨_, q, _⟩ := hit; exact Heap.lt_size q
    have pt : s.heap.IsTuple a its.toArray := let ⟨o, q1, q2, q3, q4⟩ := p; ⟨o, q1, q2, q3, q4⟩
    have hh : X.A.handled = none := I.ok.hd hc
    refine wpAny_pyNext_enum_itemC (Draws.tuple (show X.A.in1.handled = none from hh) it a nai its.toArray) he ⟨hit, pt⟩ hul hne (by simp [hne, nae]) fun x h' tk hPx ho hst' hT hsz hk => ?_
    have hxu : x = u := by
      have : its.toArray[i]? = some u := by simpa using hu
      exact Option.some.inj (hPx.symm.trans this)
    subst hxu
    refine ⟨_, rfl, wpAny_letOwnedTupleGo_enum (s := { s with heap := h', toks := tk + 1 }) ho fun h'' he' sb => ?_⟩
    have hT2 : h''.get? s.heap.objs.size = some { cls := .type "tuple", data := .seq #[.int i tk, x] } := (sb.2 _ (Nat.ne_of_gt hel)).trans hT
    have new : ObjOk X.prog X.w (upd H s.heap.objs.size (.tup [.int (i : Nat), xs[i]])) h'' s.heap.objs.size (.tup [.int (i : Nat), xs[i]]) :=
      ⟨by show 2 ≤ sizeLine; decide, [.int i tk, x], .cons ⟨_, rfl⟩ (.cons ru .nil), ⟨_, hT2, rfl, _, rfl⟩⟩
    have I1 : Inv X pins σ (upd H s.heap.objs.size (.tup [.int (i : Nat), xs[i]])) { s with heap := h'', toks := tk + 1 } :=
      I.turnedNew (ch := [e, it]) (fun b ob hb q => (sb.2 b (fun z => hb (by simp [z]))).trans (hk b ob (fun z => hb (by simp [z])) (fun z => hb (by simp [z])) q)) hf (Nat.le_refl _) new
    have hf0 : H s.heap.objs.size = none := I.hok.fresh (Nat.le_refl _)
    refine ⟨.ref s.heap.objs.size, _, I1, rfl, ⟨_, xs[i], xs, rfl, hq, hx, hf0, Same.new hf0, upd_same⟩, ⟨⟨x, ?_⟩, hst'.1.at fun o q => (sb.2 it (Ne.symm hne)).trans q, hne⟩, fun b hb => ?_⟩
    · have e1 : ((i + 1 : Nat) : Int) = (i : Int) + 1 := by omega
      rw [e1]; exact he'
    · have hb' : b < s.heap.objs.size := by
        have e' : b = e ∨ b = it := by simpa using hb
        rcases e' with z | z
        · rw [z]; exact hel
        · rw [z]; exact hil
      rw [upd_ne (Nat.ne_of_lt hb')]
      exact (hf b hb).1
  done := by
    intro X hP hw hK hc i pins s σ H E I hf st hg
    subst hP hw hK
    obtain ⟨⟨old, he⟩, hit, hne⟩ := st
    obtain ⟨xs, hq, hx⟩ := hg
    obtain ⟨its, rv, p, hz⟩ := I.tuple (hq.sq (K := X.K))
    obtain ⟨oa, _, ha⟩ := id hq
    have nai : a ≠ it := ne_of_none ha (hf it (by simp)).1
    have pt : s.heap.IsTuple a its.toArray := let ⟨o, q1, q2, q3, q4⟩ := p; ⟨o, q1, q2, q3, q4⟩
    obtain ⟨f0, f1, f2, f3, f4, f5⟩ := hf it (by simp)
    have hh : X.A.handled = none := I.ok.hd hc
    have ei : its.toArray.size = i := by
      have := rv.length
      simp
      omega
    have D := Draws.tuple (prog := X.prog) (w := X.w) (A := X.A.in1) (show X.A.in1.handled = none from hh) it a nai its.toArray
    rw [ei] at D
    exact wpAny_pyNext_enum_endD D he ⟨hit, pt⟩ fun h' eb => ⟨rfl, I.turned (t' := s.toks) (fun b o hb q => eb b o hb q) f0 f1 f3 f4 f5⟩
  self := fun A i s Q E st h => let ⟨⟨_, he⟩, _⟩ := st; wpAny_pyIter_enum he h
def iEnumT (ta : TA) : TI := fun σ H R => ta σ H fun vs H1 => ∃ a xs, vs = [.ref a] ∧ TU H1 a xs ∧ R (ItE a) H1
theorem pi_enumT {X : Cx} {e : Expr} {ta : TA} {p pos tpos : Pos} {elts : List Expr} {kk : Nat} (hg : Gl X "enumerate") (hm : X.mg "enumerate" = none) (ha : PA X [e] ta) (hs : starEach [e] X.env = [(false, eval e X.env)] := by rfl) :
    PI X (.Tuple elts kk tpos) (.Call (.Name "enumerate" p) [e] [] pos) (iEnumT ta) := by
  refine ⟨fun pins s σ H R I h => ?_⟩
  refine Call_ (ld_blt I hg hm boot_enumerate (PyProof.Rows.callWith_type1 (thn (ha.run pos pins s σ H _ I h) fun us s1 ⟨vs, H1, I1, r1, q1⟩ => ?_) hs rfl))
  obtain ⟨a, xs, ex, hq, q⟩ := q1
  subst ex
  cases r1 with
  | cons r rr =>
    cases rr
    cases r
    obtain ⟨its, rv, p', hz⟩ := I1.tuple (hq.sq (K := X.K))
    have pt : s1.heap.IsTuple a its.toArray := let ⟨o, q1, q2, q3, q4⟩ := p'; ⟨o, q1, q2, q3, q4⟩
    refine enum1_begins (begins_tuple a its.toArray) pt fun h' he hit hsz hk => wpAny_pyIter_enum he ?_
    have I2 : Inv X pins σ H1 { s1 with heap := h' } := I1.kept (t' := s1.toks) hk
    refine ⟨s1.heap.objs.size + 1, [s1.heap.objs.size + 1, s1.heap.objs.size], _, _, H1, rfl, I2, turn_enumT a (s1.heap.objs.size + 1) s1.heap.objs.size, ⟨⟨.none, he⟩, ⟨_, hit, rfl, rfl⟩, Nat.succ_ne_self _⟩, fun b hb => ?_, q⟩
    have e' : b = s1.heap.objs.size + 1 ∨ b = s1.heap.objs.size := by simpa using hb
    have hle : s1.heap.objs.size ≤ b := by
      rcases e' with z | z
      · rw [z]; exact Nat.le_add_right _ _
      · rw [z]; exact Nat.le_refl _
    exact I1.fpOk hle (I1.hok.fresh hle)
theorem walk_enumT {a : Addr} {xs : List V} : Walk (ItE a) xs.length (fun H => TU H a xs) (fun i H v H' => ∃ T x, v = .ref T ∧ xs[i]? = some x ∧ H T = none ∧ Same H H' ∧ H' T = some (.tup [.int (i : Nat), x])) := by
  refine ⟨fun i H hi q => ⟨xs, q, hi⟩, fun H q => ⟨xs, q, rfl⟩, fun i H v H' hi q y => ?_⟩
  obtain ⟨T, x, ys, h1, h2, h3, h4, h5, h6⟩ := y
  obtain ⟨o, _, e1⟩ := q
  obtain ⟨o', _, e2⟩ := h2
  rw [e1] at e2
  cases e2
  exact ⟨T, x, h1, h3, h4, h5, h6⟩
end Tn
set_option Elab.async false
set_option linter.all false
set_option maxRecDepth 100000
set_option maxHeartbeats 4000000
set_option pp.maxSteps 400
namespace Tn
open PySem PySem.Spec L2
def ForW (J : It) (g : TG) (tb : TS) (D : Ends) (σ : L2.St) (H1 : Hp) : Prop := ∃ W : Nat → Nat → L2.St → Hp → Prop, (∃ m, W 0 m σ H1) ∧ ∀ i m σ H, W i m σ H →
  (J.stop i H ∧ D.nx σ H) ∨ (J.go i H ∧ ∃ N : L2.St → Hp → Prop, (∀ σ' H', N σ' H' → ∃ m', m' < m ∧ W (i + 1) m' σ' H') ∧ ∀ x H', J.yld i H x H' → g x σ H' fun σ2 H2 => tb { D with nx := N, ct := N, bk := D.nx } σ2 H2)
theorem x_forZ {K : PySem.W.Frag} {ta : TA} {g : TG} {tb : TS} {D : Ends} {σ : L2.St} {H : Hp} (q : ta σ H fun vs H1 => ∃ a b xs ys, vs = [.ref a, .ref b] ∧ ((SqL K H1 a xs ∧ SqL K H1 b ys ∧ ForW (Itz K a b) g tb D σ H1) ∨ (SqT K H1 a xs ∧ SqT K H1 b ys ∧ ForW (RZ.ItzT K a b) g tb D σ H1))) : tFor (RZ.iZipA K ta) g tb D σ H := q
theorem x_forE {ta : TA} {g : TG} {tb : TS} {D : Ends} {σ : L2.St} {H : Hp} (q : ta σ H fun vs H1 => ∃ a xs, vs = [.ref a] ∧ TU H1 a xs ∧ ForW (ItE a) g tb D σ H1) : tFor (iEnumT ta) g tb D σ H := q
local macro_rules | `(tactic| walk_at "tz") => `(tactic| first
  | ((refine' Tz.same ?s); (case s => with_reducible assumption))
  | ((refine' Tz.but ?b ?h ?n); (case b => with_reducible assumption); (case h => walk_at "look"); (case n => (intro o v z; cases z))))
local macro_rules | `(tactic| walk_at "fz") => `(tactic| first
  | ((refine' Fz.same ?s); (case s => with_reducible assumption))
  | ((refine' Fz.but ?b ?h ?n); (case b => with_reducible assumption); (case h => walk_at "look"); (case n => first | exact nf_lst | exact nf_dK | exact nf_ext | assumption)))
local macro_rules | `(tactic| walk_at "look") => `(tactic| first
  | with_reducible assumption
  | ((with_reducible refine' Same.app ?s ?m); (case s => with_reducible assumption); (case m => walk_at "look"))
  | ((with_reducible refine' RR.fz ?z ?m); (case z => walk_at "fz"); (case m => walk_at "look"))
  | ((with_reducible refine' Rp.tz ?z ?m); (case z => walk_at "tz"); (case m => walk_at "look"))
  | ((with_reducible refine' TU.tz ?z ?m); (case z => walk_at "tz"); (case m => walk_at "look"))
  | ((with_reducible refine' RpL.tz ?z ?m); (case z => walk_at "tz"); (case m => walk_at "look"))
  | ((with_reducible refine' GM.fz ?z ?m); (case z => walk_at "fz"); (case m => walk_at "look"))
  | ((with_reducible refine' But.app' ?b ?n ?m); (case b => with_reducible assumption); (case n => first | assumption | (refine Ne.symm ?_; assumption)); (case m => walk_at "look"))
  | ((with_reducible refine' But.app ?b ?l ?d ?m); (case b => with_reducible assumption); (case m => walk_at "look"); (case l => walk_at "look"); (case d => (intro z; cases z))))
local macro_rules | `(tactic| walk_at "rp") => `(tactic| first
  | (with_reducible assumption)
  | walk_at "look"
  | exact Rp.bl _ | exact Rp.int _ | exact Rp.str _ | exact Rp.non
  | ((refine' Rp.tup ?h ?l); (case h => walk_at "look"); (case l => walk_at "rpl")))
local macro_rules | `(tactic| walk_at "rpl") => `(tactic| first
  | exact RpL.nil
  | ((refine' RpL.cons ?h ?l); (case h => walk_at "rp"); (case l => walk_at "rpl")))
local macro_rules | `(tactic| walk_at "vc") => `(tactic| repeat (first
  | with_reducible refine' x_seq ?_
  | with_reducible refine' x_ifS ?_
  | with_reducible refine' x_asg ?_
  | with_reducible refine' x_drop ?_
  | with_reducible refine' x_ret ?_
  | with_reducible refine' x_name ?_
  | with_reducible refine' x_c ?_
  | ((with_reducible refine' x_var ?h ?_); (case h => rfl))
  | with_reducible refine' x_op ?_
  | with_reducible refine' x_un ?_
  | with_reducible refine' x_tup ?_
  | with_reducible refine' x_lst ?_
  | ((with_reducible refine' x_gtup ?h ?l ?_); (case h => walk_at "look"); (case l => rfl))
  | ((with_reducible refine' x_gtup' ?h ?l ?_); (case h => walk_at "look"); (case l => rfl))
  | with_reducible refine' x_gcons ?_
  | with_reducible refine' x_gnil ?_
  | with_reducible refine' x_nil ?_
  | with_reducible refine' x_cons ?_
  | with_reducible refine' x_call ?_
  | with_reducible refine' x_meth ?_
  | ((with_reducible refine' x_methv ?h ?l ?_); (case h => walk_at "look"); (case l => first | rfl | decide +kernel))
  | with_reducible refine' x_make ?_
  | with_reducible refine' x_cb ?_
  | with_reducible refine' x_test ?_
  | with_reducible refine' x_B ?_
  | with_reducible refine' x_and ?_
  | with_reducible refine' x_or ?_
  | with_reducible refine' x_not ?_
  | with_reducible refine' x_if ?_
  | with_reducible refine' x_andV ?_
  | with_reducible refine' x_orV ?_
  | with_reducible refine' x_notV ?_
  | with_reducible refine' x_next ?_
  | with_reducible refine' x_gfldc ?_
  | with_reducible refine' x_bmF ?_
  | with_reducible refine' x_bmF0 ?_
  | ((with_reducible refine' y_tyL ?h ?_); (case h => walk_at "look"))
  | ((with_reducible refine' y_tyD ?h ?_); (case h => walk_at "look"))
  | ((with_reducible refine' y_lenL ?h ?_); (case h => walk_at "look"))
  | ((with_reducible refine' y_lenR ?h ?_); (case h => walk_at "look"))
  | with_reducible refine' x_forT ?_
  | with_reducible refine' x_forL ?_
  | with_reducible refine' x_lcT ?_
  | with_reducible refine' x_lcL ?_
  | ((with_reducible refine' y_tupleL ?h ?_); (case h => walk_at "look"); intro _ _ _ _ _)
  | ((with_reducible refine' y_tupleR ?h ?_); (case h => walk_at "look"))
  | ((with_reducible refine' y_tupleT ?h ?_); (case h => walk_at "look"))
  | with_reducible refine' x_cont ?_
  | with_reducible refine' x_dget ?_
  | with_reducible refine' x_din ?_
  | with_reducible refine' x_dput ?_
  | ((with_reducible refine' x_dnewN ?_); intro _ _ _ _ _)
  | with_reducible refine' x_nget2 ?_
  | with_reducible refine' x_nput ?_
  | with_reducible refine' x_lcN ?_
  | with_reducible refine' x_lcKF ?_
  | with_reducible refine' x_itemsN ?_
  | ((with_reducible refine' x_dnewK ?_); intro _ _ _ _ _)
  | with_reducible refine' x_forRev ?_
  | with_reducible refine' x_sl ?_
  | with_reducible refine' x_nopart ?_
  | with_reducible refine' x_part ?_
  | with_reducible refine' x_partI ?_
  | with_reducible refine' x_revL ?_
  | with_reducible refine' x_sfldc ?_
  | with_reducible refine' x_bl ?_
  | ((with_reducible refine' x_fldc ?h ?l ?_); (case h => walk_at "look"); (case l => first | rfl | decide +kernel))
  | ((with_reducible refine' x_setc ?h ?l ?_); (case h => walk_at "look"); (case l => exact Nat.le_of_ble_eq_true rfl); intro _ _ _)
  | ((with_reducible refine' y_num ?h ?_); (case h => walk_at "look"))
  | ((with_reducible refine' y_den ?h ?_); (case h => walk_at "look"))
  | with_reducible refine' y_I0 ?_
  | ((with_reducible refine' y_ixS ?h ?e ?a ?_); (case h => walk_at "look"); (case e => rfl); (case a => rfl))
  | ((with_reducible refine' y_ixI ?h ?e ?a ?_); (case h => walk_at "look"); (case e => rfl); (case a => rfl))
  | ((with_reducible refine' y_ixB ?h ?e ?a ?_); (case h => walk_at "look"); (case e => rfl); (case a => rfl))
  | ((with_reducible refine' y_ixR ?h ?e ?a ?_); (case h => walk_at "look"); (case e => rfl); (case a => rfl); intro _ _)
  | ((with_reducible refine' y_ixT ?h ?a ?_); (case h => walk_at "look"); (case a => rfl))
  | ((with_reducible refine' y_eq ?s ?_); (case s => rfl))
  | ((with_reducible refine' y_ne ?s ?_); (case s => rfl))
  | ((with_reducible refine' x_rtup ?l ?_); (case l => exact Nat.le_of_ble_eq_true rfl); intro _ _ _ _ _)
  | ((with_reducible refine' x_rlst ?l ?_); (case l => exact Nat.le_of_ble_eq_true rfl); intro _ _ _ _ _)
  | ((with_reducible refine' ite_t ?h ?_); (case h => first | with_reducible rfl | assumption | exact decide_eq_true (by omega) | decide +kernel | rfl))
  | ((with_reducible refine' ite_f ?h ?_); (case h => first | with_reducible rfl | assumption | exact decide_eq_false (by omega) | decide +kernel | rfl))))
def sp_alike (K : PySem.W.Frag) : Sp := fun vs H Q _ => ∃ (x y : V) (n s s' : Nat), vs = [x, y] ∧ GM K H x n s ∧ GM K H y n s' ∧ ∀ H', Same H H' → Q (.bl true) H'
def sp_hit (K : PySem.W.Frag) : Sp := fun vs H Q _ => ∃ (x dr te : V) (n s : Nat), vs = [x, dr, te] ∧ GM K H x n s ∧ Rp H dr (sDraw n) ∧ Rp H te eHas ∧ ∀ H', Same H H' → Q (.str "t") H'
abbrev cut4 (n : Nat) : PyData := .tuple [.str "p", .int 1, .int n, .tuple [.str "g", .str "a"]]
abbrev bareD (n : Nat) : PyData := .tuple [sDraw n, sIf, sPut, aftD]
theorem shaped_var (n : Nat) : SeqAt.shaped (.tuple [gNone, gTabs n, gNone]) = true := by simp [SeqAt.shaped, PyData.canLay0, PyData.canLayAll0, PyData.depth, PyData.depthAll]; decide +kernel
theorem shaped_cut (n : Nat) : SeqAt.shaped (cut4 n) = true := by simp [SeqAt.shaped, PyData.canLay0, PyData.canLayAll0, PyData.depth, PyData.depthAll]; decide +kernel
theorem shaped_bare (n : Nat) : SeqAt.shaped (bareD n) = true := by simp [SeqAt.shaped, PyData.canLay0, PyData.canLayAll0, PyData.depth, PyData.depthAll]; decide +kernel
theorem y_neD {K : PySem.W.Frag} {H : Hp} {Q : VK} {x y : V} {d : PyData} (hx : Rp H x d) (hy : Rp H y d) (sd : SeqAt.shaped d = true) (q : Q (.bl false) H) : rNeD K x y H Q := by
  refine ⟨d, d, hx.dp, hy.dp, sd, sd, ?_⟩
  rw [SeqAt.eqv_refl _ (Bool.and_eq_true_iff.mp sd).1]
  exact q
theorem y_eqD {K : PySem.W.Frag} {H : Hp} {Q : VK} {x y : V} {d : PyData} (hx : Rp H x d) (hy : Rp H y d) (sd : SeqAt.shaped d = true) (q : Q (.bl true) H) : rEqD K x y H Q := by
  refine ⟨d, d, hx.dp, hy.dp, sd, sd, ?_⟩
  rw [SeqAt.eqv_refl _ (Bool.and_eq_true_iff.mp sd).1]
  exact q
theorem bs_block (n s : Nat) : Paired (BS n s 1) [sDraw n, sIf, sPut, sAfter n s] [sDraw n, sIf, sPut, aftD] := .cons (.draw _) (.cons (.if_ _) (.cons (.put _) (.cons (.aft _) .nil)))
section
variable {P : Program} {w : World} {K : PySem.W.Frag} {mg : Str → Option Value} {base : Heap}
theorem sc_alike : FnScope ["game", "other", "one", "two"] ["game", "other"] (defScope s_alike) := ⟨rfl, rfl, rfl, by decide +kernel, rfl, by decide +kernel, by decide +kernel⟩
theorem sc_hit : FnScope ["game", "draw", "test", "local", "keys", "row"] ["game", "draw", "test"] (defScope s_hit) := ⟨rfl, rfl, rfl, by decide +kernel, rfl, by decide +kernel, by decide +kernel⟩
theorem ok_alike (T : Tx K mg) {fd : FuncData} (F : FnX K d_alike fd) : FnOk P w K mg base CX0 4 (He.fAd K d_alike.at_) fd ["game", "other"] (sp_alike K) := by
  refine F.ok sc_alike (fun vs H Q E h => ?_) (fun cdv A outer s0 H vs Q E hr h => ?_)
  · obtain ⟨x, y, n, s, s', rfl, _⟩ := h
    rfl
  obtain ⟨x, y, n, s, s', rfl, hx, hy, q⟩ := h
  refine ⟨_, PSs.nox (pss_cons (ps_if (pt_cmpR (op_neD hr.units) (pe_tupF (pa_cons (pe_fldc T.cl_Game T.n_Game_variables (pv 0)) (pa_cons (pe_fldc T.cl_Game T.n_Game_tables (pv 0)) (pa_cons (pe_fldc T.cl_Game T.n_Game_lots (pv 0)) pa_nil)))) (pe_tupF (pa_cons (pe_fldc T.cl_Game T.n_Game_variables (pv 1)) (pa_cons (pe_fldc T.cl_Game T.n_Game_tables (pv 1)) (pa_cons (pe_fldc T.cl_Game T.n_Game_lots (pv 1)) pa_nil)))) (nomark _)) (pss_one (ps_ret pe_bl)) pss_nil)
      (pss_cons (ps_if (pt_cmpR op_ne (pe_callB call_lenF (by rfl) T.f_len PySem.boot_len (pa_cons (pe_fldc T.cl_Game T.n_Game_procs (pv 0)) pa_nil)) (pe_callB call_lenF (by rfl) T.f_len PySem.boot_len (pa_cons (pe_fldc T.cl_Game T.n_Game_procs (pv 1)) pa_nil)) (nomark _)) (pss_one (ps_ret pe_bl)) pss_nil)
      (pss_cons (ps_for PassesOwn.never rfl (RZ.pi_zipA rfl T.f_zip (pa_cons (pe_fldc T.cl_Game T.n_Game_procs (pv 0)) (pa_cons (pe_fldc T.cl_Game T.n_Game_procs (pv 1)) pa_nil))) (pg_tup rfl (pgs_cons (pg_name (i := 2) sc_alike.nd rfl (Or.inl rfl)) (pgs_cons (pg_name (i := 3) sc_alike.nd rfl (Or.inl rfl)) pgs_nil))) (pss_one (ps_if (PW.pt (pw_or (pt_cmpR (op_neD hr.units) (pe_slice sl_tupU (pv 2) po_none (po_some pe_int)) (pe_slice sl_tupU (pv 3) po_none (po_some pe_int)) (nomark _)) (pw_or (pt_cmpR (op_neD hr.units) (pe_ix ix_tupF (pv 2) pe_int (fun _ _ => rfl)) (pe_ix ix_tupF (pv 3) pe_int (fun _ _ => rfl)) (nomark _)) (pw_or1 (pt_cmpR (op_neD hr.units) (pe_cal (c_bare T) (hr.mono (by omega)) rfl T.g_bare (pa_cons (pe_ix ix_tupF (pv 2) pe_int (fun _ _ => rfl)) pa_nil)) (pe_cal (c_bare T) (hr.mono (by omega)) rfl T.g_bare (pa_cons (pe_ix ix_tupF (pv 3) pe_int (fun _ _ => rfl)) pa_nil)) (nomark _)))))) (pss_one (ps_ret pe_bl)) pss_nil)))
      (pss_one (ps_ret pe_bl))))), ?_⟩
  walk_at "vc"
  refine y_gvar hx fun u1 h1 => ?_
  walk_at "vc"
  refine y_gtab hx fun u2 h2 => ?_
  walk_at "vc"
  refine y_glot hx fun u3 h3 => ?_
  walk_at "vc"
  rename_i p1 H1 f1 s1 t1
  refine y_gvar (hy.same s1) fun u4 h4 => ?_
  walk_at "vc"
  refine y_gtab (hy.same s1) fun u5 h5 => ?_
  walk_at "vc"
  refine y_glot (hy.same s1) fun u6 h6 => ?_
  walk_at "vc"
  rename_i p2 H2 f2 s2 t2
  have s02 := s1.trans s2
  refine y_neD (d := .tuple [gNone, gTabs n, gNone]) (Rp.tup (t1.same s2) (.cons (h1.same s02) (.cons (h2.same s02) (.cons (h3.same s02) .nil)))) (Rp.tup t2 (.cons (h4.same s2) (.cons (h5.same s2) (.cons (h6.same s2) .nil)))) (shaped_var n) ?_
  walk_at "vc"
  refine y_gproc (hx.same s02) fun u7 h7 => ?_
  walk_at "vc"
  refine y_gproc (hy.same s02) fun u8 h8 => ?_
  walk_at "vc"
  refine x_forZ ?_
  walk_at "vc"
  refine y_gproc (hx.same s02) fun u9 h9 => ?_
  walk_at "vc"
  refine y_gproc (hy.same s02) fun u10 h10 => ?_
  obtain ⟨a9, x9, rfl, i9, j9⟩ := h9.t_
  obtain ⟨a10, x10, rfl, i10, j10⟩ := h10.t_
  walk_at "vc"
  refine ⟨a9, a10, x9, x10, rfl,   .inr ⟨i9.sq, i10.sq, RZ.for_zipT (by rw [j9.len, j10.len]; rfl) (fun i σ' H' => Same H2 H' ∧ ∃ z1 z2, σ' = [some x, some y, z1, z2]) ⟨fun _ _ e => e, none, none, rfl⟩ (fun i σ' H' z => ⟨(i9.same z.1).sq, (i10.same z.1).sq⟩) ?_ ?_⟩⟩
  · rintro i v1 v2 Tt σ' H' e1 e2 ⟨sH, z1, z2, rfl⟩ hT
    obtain ⟨d1, g1, g2⟩ := j9.get' e1
    obtain ⟨d2, g3, g4⟩ := j10.get' e2
    have ei : i = 0 := by
      have := (List.getElem?_eq_some_iff.mp g1).1
      simp at this
      exact this
    subst ei
    cases g1
    cases g3
    have sN : Same H' (upd H' Tt (.tup [v1, v2])) := Same.new hT
    have eN : (upd H' Tt (.tup [v1, v2])) Tt = some (.tup [v1, v2]) := upd_same
    generalize upd H' Tt (.tup [v1, v2]) = H3 at sN eN
    have g2' := (g2.same sH).same sN
    have g4' := (g4.same sH).same sN
    walk_at "vc"
    refine y_slR (lo := none) (hi := some 4) 6 g2' rfl (by decide +kernel) fun w1 H4 s4 k1 => ?_
    have g4'' := g4'.same s4
    walk_at "vc"
    refine y_slR (lo := none) (hi := some 4) 6 g4'' rfl (by decide +kernel) fun w2 H5 s5 k2 => ?_
    have s35 := s4.trans s5
    have g2''' := g2'.same s35
    have g4''' := g4'.same s35
    refine y_neD (d := cut4 n) (k1.same s5) k2 (shaped_cut n) ?_
    walk_at "vc"
    rename_i w3 k3 w4 k4
    refine y_neD (d := eA) k3 k4 (by decide +kernel) ?_
    walk_at "vc"
    rename_i w5 k5
    refine ⟨w5, _, _, n, s, rfl, k5, bs_block n s, Nat.le_of_ble_eq_true rfl, fun w6 H6 s6 k6 => ?_⟩
    have g4b := g4'''.same s6
    walk_at "vc"
    rename_i w7 k7
    refine ⟨w7, _, _, n, s', rfl, k7, bs_block n s', Nat.le_of_ble_eq_true rfl, fun w8 H8 s8 k8 => ?_⟩
    refine y_neD (d := bareD n) (k6.same s8) k8 (shaped_bare n) ?_
    walk_at "vc"
    exact ⟨(((sH.trans sN).trans s35).trans s6).trans s8, _, _, rfl⟩
  · rintro σ' H' ⟨sH, z1, z2, rfl⟩
    walk_at "vc"
    exact q _ (s02.trans sH)
theorem c_alike (T : Tx K mg) : Cal P w K mg base 4 d_alike ["game", "other"] [] (sp_alike K) :=
  Cal.of T.d_alike rfl rfl (fun _ _ _ _ _ _ us hl => match us, hl with | [_, _], _ => rfl) fun fd F => ok_alike T F
theorem ok_hit (T : Tx K mg) {fd : FuncData} (F : FnX K d_hit fd) : FnOk P w K mg base CX0 1 (He.fAd K d_hit.at_) fd ["game", "draw", "test"] (sp_hit K) := by
  refine F.ok sc_hit (fun vs H Q E h => ?_) (fun cdv A outer s0 H vs Q E hr h => ?_)
  · obtain ⟨x, dr, te, n, s, rfl, _⟩ := h
    rfl
  obtain ⟨x, dr, te, n, s, rfl, hx, hdr, hte, q⟩ := h
  refine ⟨_, PSs.nox (pss_cons (ps_set (i := 3) sc_hit.nd rfl (Or.inl rfl) (pe_tupF (pa_cons pe_str (pa_cons (pe_ix ix_tupF (pv 1) pe_int (fun _ _ => rfl)) pa_nil))))
      (pss_cons (ps_if (PW.pt (pw_and (pt_cmpR op_eq (pe_ix ix_tupF (pv 2) pe_int (fun _ _ => rfl)) pe_str (nomark _)) (pw_and1 (pt_cmpR (op_eqD hr.units) (pe_ix ix_tupF (pv 2) pe_int (fun _ _ => rfl)) (pv 3) (nomark _))))) (pss_cons (ps_setLc (i := 4) (own := [("row", 5)]) (g := gName 5) (by rfl) sc_hit.nd rfl rfl (sw_true rfl rfl rfl (by decide +kernel)) (pi_tup (pe_fldc T.cl_Game T.n_Game_tables (pv 0))) (blkOk_by (own := [("row", 5)]) (N := ["game", "draw", "test", "local", "keys", "row"]) (sc := defScope s_hit) (by decide +kernel)) (fun _ _ _ _ _ => (pg_name (i := 5) sc_hit.nd rfl (Or.inl rfl))) (fun _ _ _ _ _ => pts_one (pt_cmpR op_eq (pe_ix ix_tupF (pv 5) pe_int (fun _ _ => rfl)) (pe_ix ix_tupF (pv 2) pe_int (fun _ _ => rfl)) (nomark _))) (fun _ _ _ _ _ => (pe_ix ix_tupF (pv 5) pe_int (fun _ _ => rfl))))
      (pss_one (ps_if (pt_cmpR (op_eqV hr.units) (pv 4) (pe_lst (pa_cons (pe_ix ix_tupF (pv 1) pe_int (fun _ _ => rfl)) pa_nil)) (nomark _)) (pss_one (ps_ret (pe_ix ix_tupF (pv 2) pe_int (fun _ _ => rfl)))) pss_nil))) pss_nil)
      pss_never)), ?_⟩
  walk_at "vc"
  rename_i p1 H1 f1 s1 t1 v2 hv2
  have hte1 := hte.same s1
  have hdr1 := hdr.same s1
  refine y_eqD (d := eA) hv2 (Rp.tup t1 (.cons (.str _) (.cons (.str _) .nil))) (by decide +kernel) ?_
  walk_at "vc"
  refine y_gtab (hx.same s1) fun u h1 => ?_
  obtain ⟨a1, x1, rfl, h1a, h1b⟩ := h1.t_
  refine ⟨a1, rfl, ⟨x1, h1a.sq⟩, fun D hD => lc_tup (xs := x1) (fun i H' => Same H1 H' ∧ ∃ acc, H' D = some (.lst acc) ∧ acc = (List.replicate i (V.int n))) ⟨Same.new hD, [], upd_same, rfl⟩ (fun i H' _ p => (h1a.same p.1).sq) (fun i x' H' hi p => ?_) (fun H' p => ?_)⟩
  · obtain ⟨d, hd, hr'⟩ := h1b.get' hi
    have ei : i = 0 := by
      have := (List.getElem?_eq_some_iff.mp hd).1
      simp at this
      exact this
    subst ei
    cases hd
    obtain ⟨sH, acc, ha, hacc⟩ := p
    have hr'' := hr'.same sH
    have hte2 := hte1.same sH
    walk_at "vc"
    refine ⟨rfl, ?_⟩
    walk_at "vc"
    refine ⟨acc, ha, by rw [hacc]; simp [PySem.sizeLine_eq], Same.but sH hD But.upd, _, upd_same, ?_⟩
    rw [hacc]
    rfl
  · obtain ⟨sH, acc, ha, hacc⟩ := p
    have el : x1.length = 1 := h1b.len
    rw [el] at hacc
    subst hacc
    have hdr2 := hdr1.same sH
    have hte2 := hte1.same sH
    walk_at "vc"
    rename_i p3 H3 f3 s3 e3
    refine ⟨1, by decide, .inl ⟨D, p3, _, _, rfl, rfl, SqL.of (s3 _ _ ha), SqL.of e3, .cons (.inl ⟨rfl, rfl⟩) .nil⟩, ?_⟩
    have hte3 := hte2.same s3
    walk_at "vc"
    exact q _ ((s1.trans sH).trans s3)
theorem c_hit (T : Tx K mg) : Cal P w K mg base 1 d_hit ["game", "draw", "test"] [] (sp_hit K) :=
  Cal.of T.d_hit rfl rfl (fun _ _ _ _ _ _ us hl => match us, hl with | [_, _, _], _ => rfl) fun fd F => ok_hit T F
end
end Tn
set_option Elab.async false
set_option linter.all false
set_option maxRecDepth 100000
set_option maxHeartbeats 8000000
set_option pp.maxSteps 400
namespace Tn
open PySem PySem.Spec L2
local macro_rules | `(tactic| walk_at "tz") => `(tactic| first
  | ((refine' Tz.same ?s); (case s => with_reducible assumption))
  | ((refine' Tz.but ?b ?h ?n); (case b => with_reducible assumption); (case h => walk_at "look"); (case n => (intro o v z; cases z))))
local macro_rules | `(tactic| walk_at "fz") => `(tactic| first
  | ((refine' Fz.same ?s); (case s => with_reducible assumption))
  | ((refine' Fz.but ?b ?h ?n); (case b => with_reducible assumption); (case h => walk_at "look"); (case n => first | exact nf_lst | exact nf_dK | exact nf_ext | assumption)))
local macro_rules | `(tactic| walk_at "look") => `(tactic| first
  | with_reducible assumption
  | ((with_reducible refine' Same.app ?s ?m); (case s => with_reducible assumption); (case m => walk_at "look"))
  | ((with_reducible refine' RR.fz ?z ?m); (case z => walk_at "fz"); (case m => walk_at "look"))
  | ((with_reducible refine' Rp.tz ?z ?m); (case z => walk_at "tz"); (case m => walk_at "look"))
  | ((with_reducible refine' TU.tz ?z ?m); (case z => walk_at "tz"); (case m => walk_at "look"))
  | ((with_reducible refine' RpL.tz ?z ?m); (case z => walk_at "tz"); (case m => walk_at "look"))
  | ((with_reducible refine' GM.fz ?z ?m); (case z => walk_at "fz"); (case m => walk_at "look"))
  | ((with_reducible refine' But.app' ?b ?n ?m); (case b => with_reducible assumption); (case n => first | assumption | (refine Ne.symm ?_; assumption)); (case m => walk_at "look"))
  | ((with_reducible refine' But.app ?b ?l ?d ?m); (case b => with_reducible assumption); (case m => walk_at "look"); (case l => walk_at "look"); (case d => (intro z; cases z))))
local macro_rules | `(tactic| walk_at "rp") => `(tactic| first
  | (with_reducible assumption)
  | walk_at "look"
  | exact Rp.bl _ | exact Rp.int _ | exact Rp.str _ | exact Rp.non
  | ((refine' Rp.tup ?h ?l); (case h => walk_at "look"); (case l => walk_at "rpl")))
local macro_rules | `(tactic| walk_at "rpl") => `(tactic| first
  | exact RpL.nil
  | ((refine' RpL.cons ?h ?l); (case h => walk_at "rp"); (case l => walk_at "rpl")))
local macro_rules | `(tactic| walk_at "vc") => `(tactic| repeat (first
  | with_reducible refine' x_seq ?_
  | with_reducible refine' x_ifS ?_
  | with_reducible refine' x_asg ?_
  | with_reducible refine' x_drop ?_
  | with_reducible refine' x_ret ?_
  | with_reducible refine' x_name ?_
  | with_reducible refine' x_c ?_
  | ((with_reducible refine' x_var ?h ?_); (case h => rfl))
  | with_reducible refine' x_op ?_
  | with_reducible refine' x_un ?_
  | with_reducible refine' x_tup ?_
  | with_reducible refine' x_lst ?_
  | ((with_reducible refine' x_gtup ?h ?l ?_); (case h => walk_at "look"); (case l => rfl))
  | ((with_reducible refine' x_gtup' ?h ?l ?_); (case h => walk_at "look"); (case l => rfl))
  | with_reducible refine' x_gcons ?_
  | with_reducible refine' x_gnil ?_
  | with_reducible refine' x_nil ?_
  | with_reducible refine' x_cons ?_
  | with_reducible refine' x_call ?_
  | with_reducible refine' x_meth ?_
  | ((with_reducible refine' x_methv ?h ?l ?_); (case h => walk_at "look"); (case l => first | rfl | decide +kernel))
  | with_reducible refine' x_make ?_
  | with_reducible refine' x_cb ?_
  | with_reducible refine' x_test ?_
  | with_reducible refine' x_B ?_
  | with_reducible refine' x_and ?_
  | with_reducible refine' x_or ?_
  | with_reducible refine' x_not ?_
  | with_reducible refine' x_if ?_
  | with_reducible refine' x_andV ?_
  | with_reducible refine' x_orV ?_
  | with_reducible refine' x_notV ?_
  | with_reducible refine' x_next ?_
  | with_reducible refine' x_gfldc ?_
  | with_reducible refine' x_bmF ?_
  | with_reducible refine' x_bmF0 ?_
  | ((with_reducible refine' y_tyL ?h ?_); (case h => walk_at "look"))
  | ((with_reducible refine' y_tyD ?h ?_); (case h => walk_at "look"))
  | ((with_reducible refine' y_lenL ?h ?_); (case h => walk_at "look"))
  | ((with_reducible refine' y_lenR ?h ?_); (case h => walk_at "look"))
  | with_reducible refine' x_forT ?_
  | with_reducible refine' x_forL ?_
  | with_reducible refine' x_lcT ?_
  | with_reducible refine' x_lcL ?_
  | ((with_reducible refine' y_tupleL ?h ?_); (case h => walk_at "look"); intro _ _ _ _ _)
  | ((with_reducible refine' y_tupleR ?h ?_); (case h => walk_at "look"))
  | ((with_reducible refine' y_tupleT ?h ?_); (case h => walk_at "look"))
  | with_reducible refine' x_cont ?_
  | with_reducible refine' x_dget ?_
  | with_reducible refine' x_din ?_
  | with_reducible refine' x_dput ?_
  | ((with_reducible refine' x_dnewN ?_); intro _ _ _ _ _)
  | with_reducible refine' x_nget2 ?_
  | with_reducible refine' x_nput ?_
  | with_reducible refine' x_lcN ?_
  | with_reducible refine' x_lcKF ?_
  | with_reducible refine' x_itemsN ?_
  | ((with_reducible refine' x_dnewK ?_); intro _ _ _ _ _)
  | with_reducible refine' x_forRev ?_
  | with_reducible refine' x_sl ?_
  | with_reducible refine' x_nopart ?_
  | with_reducible refine' x_part ?_
  | with_reducible refine' x_partI ?_
  | with_reducible refine' x_revL ?_
  | with_reducible refine' x_sfldc ?_
  | with_reducible refine' x_bl ?_
  | ((with_reducible refine' x_fldc ?h ?l ?_); (case h => walk_at "look"); (case l => first | rfl | decide +kernel))
  | ((with_reducible refine' x_setc ?h ?l ?_); (case h => walk_at "look"); (case l => exact Nat.le_of_ble_eq_true rfl); intro _ _ _)
  | ((with_reducible refine' y_num ?h ?_); (case h => walk_at "look"))
  | ((with_reducible refine' y_den ?h ?_); (case h => walk_at "look"))
  | with_reducible refine' y_I0 ?_
  | ((with_reducible refine' y_ixS ?h ?e ?a ?_); (case h => walk_at "look"); (case e => rfl); (case a => rfl))
  | ((with_reducible refine' y_ixI ?h ?e ?a ?_); (case h => walk_at "look"); (case e => rfl); (case a => rfl))
  | ((with_reducible refine' y_ixB ?h ?e ?a ?_); (case h => walk_at "look"); (case e => rfl); (case a => rfl))
  | ((with_reducible refine' y_ixR ?h ?e ?a ?_); (case h => walk_at "look"); (case e => rfl); (case a => rfl); intro _ _)
  | ((with_reducible refine' y_ixT ?h ?a ?_); (case h => walk_at "look"); (case a => rfl))
  | ((with_reducible refine' y_eq ?s ?_); (case s => rfl))
  | ((with_reducible refine' y_ne ?s ?_); (case s => rfl))
  | ((with_reducible refine' x_rtup ?l ?_); (case l => exact Nat.le_of_ble_eq_true rfl); intro _ _ _ _ _)
  | ((with_reducible refine' x_rlst ?l ?_); (case l => exact Nat.le_of_ble_eq_true rfl); intro _ _ _ _ _)
  | ((with_reducible refine' ite_t ?h ?_); (case h => first | with_reducible rfl | assumption | exact decide_eq_true (by omega) | decide +kernel | rfl))
  | ((with_reducible refine' ite_f ?h ?_); (case h => first | with_reducible rfl | assumption | exact decide_eq_false (by omega) | decide +kernel | rfl))))
def sp_counted (K : PySem.W.Frag) : Sp := fun vs H Q _ => ∃ (x : V) (n s : Nat), vs = [x] ∧ GM K H x n s ∧ 0 < n ∧ n < 60 ∧ ∀ v H', Same H H' → BdAt K H' v 0 0 (mkRat 1 n) → Q v H'
theorem hi_1n : ∀ n : Nat, n < 60 → 0 < n → hiR [mkRat 1 n] 0 = mkRat 1 n := by decide +kernel
theorem nn_1n : ∀ n : Nat, n < 60 → 0 < n → 0 ≤ (mkRat 1 n).num := by decide +kernel
theorem cs_block (n s : Nat) : Paired (CS n s 1) [sDraw n, sIf, sPut, sAfter n s] [0, 0, 1, 0] := .cons (.draw _) (.cons (.if_ _) (.cons (.put _) (.cons (.aft _) .nil)))
theorem y_dgetRS {H : Hp} {a : Addr} {kvs : List (Key × V)} {s : Str} {v : V} {R : V → Prop} (h : H a = some (.dK kvs)) (l : valV kvs (Sum.inr s) = some v) (q : R v) : ∃ b w, V.ref a = .ref b ∧ DGet H b (.str s) (some w) ∧ R w := ⟨a, v, rfl, l ▸ DGet.k (k := Sum.inr s) h, q⟩
theorem x_cat {H : Hp} {Q : VK} {l b : Addr} {xs zs : List V} (h1 : H l = some (.lst xs)) (h2 : H b = some (.lst zs)) (hl : xs.length + zs.length ≤ 1000) (q : ∀ p H', H p = none → Same H H' → H' p = some (.lst (xs ++ zs)) → Q (.ref p) H') : rCat (.ref l) (.ref b) H Q :=
  ⟨l, b, xs, zs, rfl, rfl, h1, h2, Nat.le_of_lt (small1000 hl), fun p hp => q p _ hp (Same.new hp) upd_same⟩
section
variable {P : Program} {w : World} {K : PySem.W.Frag} {mg : Str → Option Value} {base : Heap}
theorem sc_counted : FnScope ["game", "firsts", "mores", "grown", "row", "proc", "first", "more", "at", "statement", "place", "chance"] ["game"] (defScope s_counted) := ⟨rfl, rfl, rfl, by decide +kernel, rfl, by decide +kernel, by decide +kernel⟩
theorem ok_counted (T : Tx K mg) {fd : FuncData} (F : FnX K d_counted fd) : FnOk P w K mg base CX0 5 (He.fAd K d_counted.at_) fd ["game"] (sp_counted K) := by
  refine F.ok sc_counted (fun vs H Q E h => ?_) (fun cdv A outer s0 H vs Q E hr h => ?_)
  · obtain ⟨x, n, s, rfl, _⟩ := h
    rfl
  obtain ⟨x, n, s, rfl, hx, n0, hn, q⟩ := h
  have hu := hu1 hr
  refine ⟨_, PSs.nox (pss_cons (ps_set (i := 1) sc_counted.nd rfl (Or.inl rfl) (pe_lst pa_nil))
      (pss_cons (ps_set (i := 2) sc_counted.nd rfl (Or.inl rfl) (pe_lst pa_nil))
      (pss_cons (ps_set (i := 3) sc_counted.nd rfl (Or.inl rfl) pe_dnewK)
      (pss_cons (ps_for PassesOwn.never rfl (pi_tup (pe_fldc T.cl_Game T.n_Game_tables (pv 0))) (pg_name (i := 4) sc_counted.nd rfl (Or.inr rfl)) (pss_one (ps_dput hu (pv 3) (pe_ix ix_tupF (pv 4) pe_int (fun _ _ => rfl)) (pe_callB (cr_max rfl) (by rfl) T.f_max (by decide +kernel) (pa_cons (pe_op op_cat (pe_lst (pa_cons pe_int pa_nil)) (pe_lc (own := [("proc", 5)]) (g := gName 5) (tt := tYes) (by rfl) sc_counted.nd (pi_tup (pe_fldc T.cl_Game T.n_Game_procs (pv 0))) (blkOk_by (own := [("proc", 5)]) (N := ["game", "firsts", "mores", "grown", "row", "proc", "first", "more", "at", "statement", "place", "chance"]) (sc := defScope s_counted) (by decide +kernel)) (fun _ _ _ _ _ => (pg_name (i := 5) sc_counted.nd rfl (Or.inl rfl))) (fun _ _ _ _ _ => pts_nil) (fun _ _ _ _ _ => (pe_cal (c_puts T) (hr.mono (by omega)) rfl T.g_puts (pa_cons (pe_ix ix_tupF (pv 5) pe_int (fun _ _ => rfl)) (pa_cons (pe_ix ix_tupF (pv 4) pe_int (fun _ _ => rfl)) pa_nil)))))) pa_nil)) rfl)))
      (pss_cons (ps_for PassesOwn.never rfl (pi_tup (pe_fldc T.cl_Game T.n_Game_procs (pv 0))) (pg_name (i := 5) sc_counted.nd rfl (Or.inl rfl)) (pss_cons (ps_set (i := 6) sc_counted.nd rfl (Or.inl rfl) (pe_lst pa_nil))
      (pss_cons (ps_set (i := 7) sc_counted.nd rfl (Or.inl rfl) (pe_lst pa_nil))
      (pss_cons (ps_for PassesOwn.never rfl (pi_enumT rfl T.f_enumerate (pa_cons (pe_ix ix_tupF (pv 5) pe_int (fun _ _ => rfl)) pa_nil)) (pg_tup rfl (pgs_cons (pg_name (i := 8) sc_counted.nd rfl (Or.inl rfl)) (pgs_cons (pg_name (i := 9) sc_counted.nd rfl (Or.inl rfl)) pgs_nil))) (pss_cons (ps_if (pt_not (pt_val (pe_cal (c_has_bad T) (hr.mono (by omega)) rfl T.g_has_bad (pa_cons (pe_tupF (pa_cons (pv 9) pa_nil)) pa_nil)))) (pss_one ps_continue) pss_nil)
      (pss_cons (ps_set (i := 10) sc_counted.nd rfl (Or.inl rfl) pe_non)
      (pss_cons (ps_if (PW.pt (pw_and (pt_cmpR op_eq (pe_ix ix_tupF (pv 9) pe_int (fun _ _ => rfl)) pe_str (nomark _)) (pw_and (pt_cmpR op_gt (pv 8) pe_int (nomark _)) (pw_and (pt_cmpR op_eq (pe_ix ix_tupF (pe_ix ix_tupF (pe_ix ix_tupF (pv 5) pe_int (fun _ _ => rfl)) (pe_op op_sub (pv 8) pe_int) (fun _ _ => rfl)) pe_int (fun _ _ => rfl)) pe_str (nomark _)) (pw_and1 (pt_not (pt_val (pe_cal (c_has_bad T) (hr.mono (by omega)) rfl T.g_has_bad (pa_cons (pe_ix ix_tupF (pv 9) pe_int (fun _ _ => rfl)) pa_nil))))))))) (pss_one (ps_set (i := 10) sc_counted.nd rfl (Or.inl rfl) (pe_cal (c_hit T) (hr.mono (by omega)) rfl T.g_hit (pa_cons (pv 0) (pa_cons (pe_ix ix_tupF (pe_ix ix_tupF (pv 5) pe_int (fun _ _ => rfl)) (pe_op op_sub (pv 8) pe_int) (fun _ _ => rfl)) (pa_cons (pe_ix ix_tupF (pv 9) pe_int (fun _ _ => rfl)) pa_nil)))))) pss_nil)
      (pss_cons (ps_if (pt_cmpR op_isN (pv 10) pe_non (nomark _)) pss_never pss_nil)
      (pss_cons (ps_set (i := 11) sc_counted.nd rfl (Or.inl rfl) (pe_mkc (c_Ratio_init T) T.mk_Ratio (hr.mono (by omega)) rfl T.g_Ratio (pa_cons pe_int (pa_cons (pe_ix ix_tupF (pe_ix ix_tupF (pe_ix ix_tupF (pv 5) pe_int (fun _ _ => rfl)) (pe_op op_sub (pv 8) pe_int) (fun _ _ => rfl)) pe_int (fun _ _ => rfl)) pa_nil))))
      (pss_one (ps_if (pt_cmpR op_eq (pv 10) pe_str (nomark _)) (pss_one (ps_expr (pe_bmF PySem.F.plainAttrs_list PySem.F.slot_list_append PySem.F.type_list_append mt_append (pv 6) (pa_cons (pv 11) pa_nil)))) (pss_cons (ps_expr (pe_bmF PySem.F.plainAttrs_list PySem.F.slot_list_append PySem.F.type_list_append mt_append (pv 6) (pa_cons (pe_op (op_own (c_Ratio_mul T) T.m_Ratio_mul T.self_Ratio (hr.mono (by omega))) (pv 11) (pe_mkc (c_Ratio_init1 T) T.mk_Ratio (hr.mono (by omega)) rfl T.g_Ratio (pa_cons (pe_cal (c_puts T) (hr.mono (by omega)) rfl T.g_puts (pa_cons (pe_slice sl_tupU (pe_ix ix_tupF (pv 5) pe_int (fun _ _ => rfl)) po_none (po_some (pv 8))) (pa_cons (pv 10) pa_nil))) pa_nil))) pa_nil)))
      (pss_one (ps_expr (pe_bmF PySem.F.plainAttrs_list PySem.F.slot_list_append PySem.F.type_list_append mt_append (pv 7) (pa_cons (pe_op (op_own (c_Ratio_mul T) T.m_Ratio_mul T.self_Ratio (hr.mono (by omega))) (pv 11) (pe_mkc (c_Ratio_init1 T) T.mk_Ratio (hr.mono (by omega)) rfl T.g_Ratio (pa_cons (pe_dget hu (pv 3) (pv 10) (fun _ _ => rfl)) pa_nil))) pa_nil)))))))))))))
      (pss_cons (ps_expr (pe_bmF PySem.F.plainAttrs_list PySem.F.slot_list_append PySem.F.type_list_append mt_append (pv 1) (pa_cons (pe_cal (c_total T) (hr.mono (by omega)) rfl T.g_total (pa_cons (pv 6) pa_nil)) pa_nil)))
      (pss_one (ps_expr (pe_bmF PySem.F.plainAttrs_list PySem.F.slot_list_append PySem.F.type_list_append mt_append (pv 2) (pa_cons (pe_cal (c_total T) (hr.mono (by omega)) rfl T.g_total (pa_cons (pv 7) pa_nil)) pa_nil)))))))))
      (pss_one (ps_ret (pe_mkc (c_Bound_init1 T) T.mk_Bound (hr.mono (by omega)) rfl T.g_Bound (pa_cons (pe_mkc (c_Ratio_init1 T) T.mk_Ratio (hr.mono (by omega)) rfl T.g_Ratio (pa_cons pe_int pa_nil)) (pa_cons (pe_cal (c_highest T) (hr.mono (by omega)) rfl T.g_highest (pa_cons (pv 1) pa_nil)) (pa_cons (pe_cal (c_highest T) (hr.mono (by omega)) rfl T.g_highest (pa_cons (pv 2) pa_nil)) pa_nil))))))))))), ?_⟩
  walk_at "vc"
  rename_i lf H1 f1 s1 e1 lm H2 f2 s2 e2 gd H3 f3 s3 e3
  have s03 := (s1.trans s2).trans s3
  have flf : H lf = none := f1
  have flm : H lm = none := s1.free f2
  have fgd : H gd = none := (s1.trans s2).free f3
  have nfm : lf ≠ lm := ne_of_none e1 f2
  have e3f := s3 _ _ (s2 _ _ e1)
  have e3m := s3 _ _ e2
  have sm1 := sm_1n n hn n0
  walk_at "vc"
  refine y_gtab (hx.same s03) fun u1 h1 => ?_
  refine y_forR h1 (fun i σ' H' => ∃ z4 z5, σ' = [some x, some (.ref lf), some (.ref lm), some (.ref gd), z4, z5, none, none, none, none, none, none] ∧ Same H H' ∧ Fz K H3 H' ∧ H' lf = some (.lst []) ∧ H' lm = some (.lst []) ∧ H' gd = some (.dK (if i = 0 then [] else [(Sum.inr "t", .int 1)]))) ⟨none, none, rfl, s03, Fz.refl, e3f, e3m, e3⟩ (fun i σ' H' ⟨_, _, _, _, z, _⟩ => z) ?_ ?_
  · rintro i d v σ' H' hi hd ⟨z4, z5, rfl, sH, zH, g1, g2, g3⟩
    have ei : i = 0 := by
      have := (List.getElem?_eq_some_iff.mp hi).1
      simp at this
      exact this
    subst ei
    cases hi
    walk_at "vc"
    rename_i l5 H5 f5 s5 e5
    refine y_gproc (hx.same (sH.trans s5)) fun u6 h6 => ?_
    obtain ⟨a6, x6, rfl, i6, j6⟩ := h6.t_
    refine y_lcT (fun D i v H => v = .int 1) (fun D ys i v H H' hD b r => r) i6 (by rw [j6.len]; exact Nat.le_of_ble_eq_true rfl) (fun D i x' H' acc hi hD s7 hacc Q' q' => ?_) mg_name fun D H7 acc hD s7 hacc hla hr1 => ?_
    · obtain ⟨d', hd', hr'⟩ := j6.get' hi
      have ei : i = 0 := by
        have := (List.getElem?_eq_some_iff.mp hd').1
        simp at this
        exact this
      subst ei
      cases hd'
      have hr'' := hr'.same s7
      have hd2 := (hd.same s5).same s7
      walk_at "vc"
      refine ⟨rfl, ?_⟩
      walk_at "vc"
      rename_i w1 k1
      exact ⟨w1, _, _, n, s, rfl, k1, cs_block n s, q' _ _ (fun _ _ e => e) rfl⟩
    rw [j6.len] at hla
    obtain ⟨y, rfl⟩ := one_of hla
    have ey := hr1 0 y rfl
    subst ey
    walk_at "vc"
    refine x_cat (s7 _ _ e5) hacc (by decide) fun p8 H8 f8 s8 e8 => ?_
    walk_at "vc"
    refine ⟨p8, [0, 1], rfl, SqL.of e8, by decide, fun m hm hy => ?_⟩
    have em : m = 1 := by
      have := hy 1 (by simp)
      simp at hm
      omega
    subst em
    have s58 := (s5.trans s7).trans s8
    have hd8 := hd.same s58
    walk_at "vc"
    refine y_dputS (s := "t") (s58 _ _ g3) (by decide) fun H9 b9 e9 => ?_
    have hg8 := s58 _ _ g3
    refine ⟨_, _, rfl, Same.but (sH.trans s58) fgd b9, zH.trans ((Fz.same s58).trans (Fz.but b9 hg8 nf_dK)), b9 _ _ (ne_of (s58 _ _ g1) hg8 fun z => by cases z) (s58 _ _ g1), b9 _ _ (ne_of (s58 _ _ g2) hg8 fun z => by cases z) (s58 _ _ g2), ?_⟩
    rw [e9]
    rfl
  · rintro σ' H' ⟨z4, z5, rfl, sH, zH, g1, g2, g3⟩
    have g3 : H' gd = some (.dK [(Sum.inr "t", .int 1)]) := g3
    walk_at "vc"
    refine y_gproc (hx.same sH) fun u6 h6 => ?_
    refine y_forR h6 (fun i σ2 H2 => ∃ z5 z6 z7 z8 z9 z10 z11, σ2 = [some x, some (.ref lf), some (.ref lm), some (.ref gd), z4, z5, z6, z7, z8, z9, z10, z11] ∧ Same H H2 ∧ Fz K H' H2 ∧ ∃ xs ys, H2 lf = some (.lst xs) ∧ H2 lm = some (.lst ys) ∧ H2 gd = some (.dK [(Sum.inr "t", .int 1)]) ∧ RRL K H2 xs (if i = 0 then [] else [0]) ∧ RRL K H2 ys (if i = 0 then [] else [mkRat 1 n])) ⟨z5, none, none, none, none, none, none, rfl, sH, Fz.refl, [], [], g1, g2, g3, .nil, .nil⟩ (fun i σ' H' ⟨_, _, _, _, _, _, _, _, _, z, _⟩ => z) ?_ ?_
    · rintro i d v σ2 H2 hi hd ⟨z5, z6, z7, z8, z9, z10, z11, rfl, sH2, zH2, xs, ys, k1, k2, k3, k4, k5⟩
      have ei : i = 0 := by
        have := (List.getElem?_eq_some_iff.mp hi).1
        simp at this
        exact this
      subst ei
      cases hi
      cases k4
      cases k5
      walk_at "vc"
      rename_i l6 H6 f6 s6 e6 l7 H7 f7 s7 e7
      have s27 := s6.trans s7
      have hd7 := hd.same s27
      have nf6 : lf ≠ l6 := ne_of_none k1 f6
      have nm6 : lm ≠ l6 := ne_of_none k2 f6
      have nf7 : lf ≠ l7 := ne_of_none (s6 _ _ k1) f7
      have nm7 : lm ≠ l7 := ne_of_none (s6 _ _ k2) f7
      have n67 : l6 ≠ l7 := ne_of_none e6 f7
      have fl6 : H l6 = none := sH2.free f6
      have fl7 : H l7 = none := (sH2.trans s6).free f7
      refine x_forE ?_
      walk_at "vc"
      rename_i vb hvb
      obtain ⟨ab, xb, rfl, tb, rb⟩ := id hvb.t_
      refine ⟨ab, xb, rfl, tb, for_it walk_enumT (fun j σ' H' => ∃ z8 z9 z10 z11, σ' = [some x, some (.ref lf), some (.ref lm), some (.ref gd), z4, some v, some (.ref l6), some (.ref l7), z8, z9, z10, z11] ∧ Same H H' ∧ Fz K H7 H' ∧ H' lf = some (.lst []) ∧ H' lm = some (.lst []) ∧ H' gd = some (.dK [(Sum.inr "t", .int 1)]) ∧ ∃ xs ys, H' l6 = some (.lst xs) ∧ H' l7 = some (.lst ys) ∧ RRL K H' xs (if j ≤ 1 then [] else [0]) ∧ RRL K H' ys (if j ≤ 1 then [] else [mkRat 1 n])) ⟨z8, z9, z10, z11, rfl, sH2.trans s27, Fz.refl, s27 _ _ k1, s27 _ _ k2, s27 _ _ k3, [], [], s7 _ _ e6, e7, .nil, .nil⟩ (fun j σ' H' _ ⟨_, _, _, _, _, _, z, _⟩ => tb.fz z) ?_ ?_⟩
      · rintro j y σ' H8 H9 hj ⟨z8, z9, z10, z11, rfl, sH8, z78, c1, c2, c3, xs, ys, c4, c5, c6, c7⟩ ⟨Tt, y', rfl, hy', fT, s9, e9⟩
        obtain ⟨dst, hdst, rst⟩ := rb.get' hy'
        have rst9 := (rst.fz z78).same s9
        have hd9 := (hd7.fz z78).same s9
        have c6' := RRL.fz (Fz.same s9) c6
        have c7' := RRL.fz (Fz.same s9) c7
        match j, hdst with
        | 0, hdst =>
          cases hdst
          walk_at "vc"
          rename_i p10 H10 f10 s10 t10
          have s810 := s9.trans s10
          refine ⟨.ref p10, [sDraw n], [false], n, s, rfl, Rp.tup t10 (.cons (rst9.same s10) .nil), .cons (.draw _) .nil, ?_⟩
          walk_at "vc"
          exact ⟨_, _, _, _, rfl, sH8.trans s810, z78.trans (Fz.same s810), s810 _ _ c1, s810 _ _ c2, s810 _ _ c3, xs, ys, s810 _ _ c4, s810 _ _ c5, RRL.fz (Fz.same s10) c6', RRL.fz (Fz.same s10) c7'⟩
        | 2, hdst =>
          cases hdst
          walk_at "vc"
          rename_i p10 H10 f10 s10 t10
          have s810 := s9.trans s10
          refine ⟨.ref p10, [sPut], [false], n, s, rfl, Rp.tup t10 (.cons (rst9.same s10) .nil), .cons (.put _) .nil, ?_⟩
          walk_at "vc"
          exact ⟨_, _, _, _, rfl, sH8.trans s810, z78.trans (Fz.same s810), s810 _ _ c1, s810 _ _ c2, s810 _ _ c3, xs, ys, s810 _ _ c4, s810 _ _ c5, RRL.fz (Fz.same s10) c6', RRL.fz (Fz.same s10) c7'⟩
        | 3, hdst =>
          cases hdst
          walk_at "vc"
          rename_i p10 H10 f10 s10 t10
          have s810 := s9.trans s10
          refine ⟨.ref p10, [sAfter n s], [false], n, s, rfl, Rp.tup t10 (.cons (rst9.same s10) .nil), .cons (.aft _) .nil, ?_⟩
          walk_at "vc"
          exact ⟨_, _, _, _, rfl, sH8.trans s810, z78.trans (Fz.same s810), s810 _ _ c1, s810 _ _ c2, s810 _ _ c3, xs, ys, s810 _ _ c4, s810 _ _ c5, RRL.fz (Fz.same s10) c6', RRL.fz (Fz.same s10) c7'⟩
        | 1, hdst =>
          cases hdst
          walk_at "vc"
          rename_i p10 H10 f10 s10 t10
          have s810 := s9.trans s10
          have rst10 := rst9.same s10
          have hd10 := hd9.same s10
          refine ⟨.ref p10, [sIf], [true], n, s, rfl, Rp.tup t10 (.cons rst10 .nil), .cons (.if_ _) .nil, ?_⟩
          walk_at "vc"
          rename_i v11 hv11
          refine ⟨v11, [], [], n, s, rfl, hv11, .nil, ?_⟩
          walk_at "vc"
          rename_i va hva vb2 hvb2 vc2 hvc2
          have sH10 := sH8.trans s810
          refine ⟨x, vb2, vc2, n, s, rfl, hx.same sH10, hvb2, hvc2, fun H11 s11 => ?_⟩
          have hd11 := hd10.same s11
          walk_at "vc"
          refine ⟨rfl, ?_⟩
          walk_at "vc"
          refine y_mkR' (r := mkRat 1 n) (by omega) (by decide) (by omega) (by rw [Int.toNat_natCast]) fun v12 H12 s12 h12 => ?_
          have hd12 := hd11.same s12
          have s812 := (s810.trans s11).trans s12
          have c4' := s812 _ _ c4
          have c5' := s812 _ _ c5
          have c3' := s812 _ _ c3
          have c6'' := RRL.fz (Fz.same (s10.trans (s11.trans s12))) c6'
          have c7'' := RRL.fz (Fz.same (s10.trans (s11.trans s12))) c7'
          walk_at "vc"
          rename_i vb3 hvb3
          refine y_slR (lo := none) (hi := some 1) 4 hvb3 rfl (by decide +kernel) fun v13 H13 s13 h13 => ?_
          walk_at "vc"
          refine ⟨v13, [sDraw n], [0], n, s, rfl, h13, .cons (.draw _) .nil, ?_⟩
          walk_at "vc"
          refine y_mkR' (r := 0) (by decide) (by decide) (by decide) (by decide +kernel) fun v14 H14 s14 h14 => ?_
          walk_at "vc"
          refine y_rop ((h12.same s13).same s14) h14 sm1 (by decide +kernel) fun v15 H15 s15 h15 => ?_
          have h15 : RR K H15 v15 0 := by
            have h15' : RR K H15 v15 (mkRat 1 n * 0) := h15
            rwa [Rat.mul_zero] at h15'
          have s1215 := (s13.trans s14).trans s15
          walk_at "vc"
          cases c6''
          refine y_append (s1215 _ _ c4') (by decide) fun H16 b16 e16 => ?_
          have z16 : Fz K H15 H16 := Fz.but b16 (s1215 _ _ c4') nf_lst
          have c5b : H16 l7 = some (.lst ys) := b16 _ _ n67.symm (s1215 _ _ c5')
          have c3b : H16 gd = some (.dK [(Sum.inr "t", .int 1)]) := b16 _ _ (ne_of (s1215 _ _ c3') (s1215 _ _ c4') fun z => by cases z) (s1215 _ _ c3')
          have h12b := (h12.same s1215).fz z16
          walk_at "vc"
          refine y_dgetRS (s := "t") (v := .int 1) c3b (by rfl) ?_
          walk_at "vc"
          refine y_mkR' (r := 1) (by decide) (by decide) (by decide) (by decide +kernel) fun v17 H17 s17 h17 => ?_
          walk_at "vc"
          refine y_rop (h12b.same s17) h17 sm1 (by decide +kernel) fun v18 H18 s18 h18 => ?_
          have h18 : RR K H18 v18 (mkRat 1 n) := by
            have h18' : RR K H18 v18 (mkRat 1 n * 1) := h18
            rwa [Rat.mul_one] at h18'
          have s1618 := s17.trans s18
          walk_at "vc"
          cases c7''
          refine y_append (s1618 _ _ c5b) (by decide) fun H19 b19 e19 => ?_
          have z19 : Fz K H18 H19 := Fz.but b19 (s1618 _ _ c5b) nf_lst
          have zA : Fz K H7 H19 := (z78.trans (Fz.same (s812.trans s1215))).trans ((z16.trans (Fz.same s1618)).trans z19)
          refine ⟨_, _, _, _, rfl, ?_, zA, ?_, ?_, ?_, _, _, b19 _ _ n67 (s1618 _ _ e16), e19, .cons (((h15.fz z16).same s1618).fz z19) .nil, .cons (h18.fz z19) .nil⟩
          · exact Same.but (Same.trans (Same.but (sH8.trans (s812.trans s1215)) fl6 b16) s1618) fl7 b19
          · exact b19 _ _ nf7 (s1618 _ _ (b16 _ _ nf6 (s1215 _ _ (s812 _ _ c1))))
          · exact b19 _ _ nm7 (s1618 _ _ (b16 _ _ nm6 (s1215 _ _ (s812 _ _ c2))))
          · exact b19 _ _ (ne_of (s1618 _ _ c3b) (s1618 _ _ c5b) fun z => by cases z) (s1618 _ _ c3b)
        | j + 4, hdst => simp at hdst
      · rintro σ' H8 ⟨z8, z9, z10, z11, rfl, sH8, z78, c1, c2, c3, xs, ys, c4, c5, c6, c7⟩
        rw [rb.len] at c6 c7
        have c6 : RRL K H8 xs [0] := c6
        have c7 : RRL K H8 ys [mkRat 1 n] := c7
        walk_at "vc"
        refine ⟨l6, xs, _, rfl, c4, c6, fun i hi => ?_, fun r hr => ?_, fun v9 H9 s9 h9 => ?_⟩
        · simp at hi
          match i, hi with
          | 0, _ => decide +kernel
          | 1, _ => decide +kernel
        · simp at hr
          rw [hr]
          decide +kernel
        walk_at "vc"
        refine y_append (s9 _ _ c1) (by decide) fun H10 b10 e10 => ?_
        have zz : Fz K H9 H10 := Fz.but b10 (s9 _ _ c1) nf_lst
        walk_at "vc"
        refine ⟨l7, ys, _, rfl, b10 _ _ nf7.symm (s9 _ _ c5), RRL.fz zz (RRL.fz (Fz.same s9) c7), fun i hi => ?_, fun r hr => ?_, fun v11 H11 s11 h11 => ?_⟩
        · simp at hi
          match i, hi with
          | 0, _ => exact (by decide +kernel : Sm (sumR []))
          | 1, _ =>
            have : sumR ([mkRat 1 n].take 1) = mkRat 1 n := by
              show (0 : Rat) + mkRat 1 n = _
              exact Rat.zero_add _
            rw [this]
            exact sm1
        · simp at hr
          rw [hr]
          exact sm1
        walk_at "vc"
        have lm11 : H11 lm = some (.lst []) := s11 _ _ (b10 _ _ nfm.symm (s9 _ _ c2))
        refine y_append lm11 (by decide) fun H12 b12 e12 => ?_
        have z12 : Fz K H11 H12 := Fz.but b12 lm11 nf_lst
        have hsum1 : sumR [0] = 0 := by decide +kernel
        have hsum2 : sumR [mkRat 1 n] = mkRat 1 n := by
          show (0 : Rat) + mkRat 1 n = _
          exact Rat.zero_add _
        rw [hsum1] at h9
        rw [hsum2] at h11
        refine ⟨_, _, _, _, _, _, _, rfl, ?_, ?_, _, _, b12 _ _ nfm (s11 _ _ e10), e12, ?_, .cons (((h9.fz zz).same s11).fz z12) .nil, .cons (h11.fz z12) .nil⟩
        · exact Same.but (Same.trans (Same.but (sH8.trans s9) flf b10) s11) flm b12
        · exact (zH2.trans (Fz.same s27)).trans (((z78.trans (Fz.same s9)).trans zz).trans ((Fz.same s11).trans z12))
        · have q9 := s9 _ _ c3
          have q10 := b10 _ _ (ne_of q9 (s9 _ _ c1) fun z => by cases z) q9
          exact b12 _ _ (ne_of (s11 _ _ q10) lm11 fun z => by cases z) (s11 _ _ q10)
    · rintro σ2 H2 ⟨z5, z6, z7, z8, z9, z10, z11, rfl, sH2, zH2, xs, ys, k1, k2, k3, k4, k5⟩
      have k4 : RRL K H2 xs [0] := k4
      have k5 : RRL K H2 ys [mkRat 1 n] := k5
      walk_at "vc"
      refine y_mkR' (r := 0) (by decide) (by decide) (by decide) (by decide +kernel) fun v3 H3 s3 h3 => ?_
      walk_at "vc"
      refine ⟨lf, xs, _, rfl, s3 _ _ k1, RRL.fz (Fz.same s3) k4, fun r hr => ?_, fun v4 H4 s4 h4 => ?_⟩
      · simp at hr
        rw [hr]
        decide +kernel
      walk_at "vc"
      refine ⟨lm, ys, _, rfl, s4 _ _ (s3 _ _ k2), RRL.fz (Fz.same (s3.trans s4)) k5, fun r hr => ?_, fun v5 H5 s5 h5 => ?_⟩
      · simp at hr
        rw [hr]
        exact sm1
      walk_at "vc"
      have a1 : hiR [0] 0 = 0 := by decide +kernel
      have a2 : hiR [mkRat 1 n] 0 = mkRat 1 n := hi_1n n hn n0
      rw [a1] at h4
      rw [a2] at h5
      exact y_mkBd ((h3.same s4).same s5) (h4.same s5) h5 (by decide) (by decide) (nn_1n n hn n0) fun v H' s h => q v H' (((sH2.trans s3).trans (s4.trans s5)).trans s) h
theorem c_counted (T : Tx K mg) : Cal P w K mg base 5 d_counted ["game"] [] (sp_counted K) :=
  Cal.of T.d_counted rfl rfl (fun _ _ _ _ _ _ us hl => match us, hl with | [_], _ => rfl) fun fd F => ok_counted T F
end
end Tn
set_option Elab.async false
set_option linter.all false
set_option maxRecDepth 100000
set_option maxHeartbeats 4000000
set_option pp.maxSteps 400
namespace Tn
open PySem PySem.Spec L2
local macro_rules | `(tactic| walk_at "tz") => `(tactic| first
  | ((refine' Tz.same ?s); (case s => with_reducible assumption))
  | ((refine' Tz.but ?b ?h ?n); (case b => with_reducible assumption); (case h => walk_at "look"); (case n => (intro o v z; cases z))))
local macro_rules | `(tactic| walk_at "fz") => `(tactic| first
  | ((refine' Fz.same ?s); (case s => with_reducible assumption))
  | ((refine' Fz.but ?b ?h ?n); (case b => with_reducible assumption); (case h => walk_at "look"); (case n => first | exact nf_lst | exact nf_dK | exact nf_ext | assumption)))
local macro_rules | `(tactic| walk_at "look") => `(tactic| first
  | with_reducible assumption
  | ((with_reducible refine' Same.app ?s ?m); (case s => with_reducible assumption); (case m => walk_at "look"))
  | ((with_reducible refine' RR.fz ?z ?m); (case z => walk_at "fz"); (case m => walk_at "look"))
  | ((with_reducible refine' Rp.tz ?z ?m); (case z => walk_at "tz"); (case m => walk_at "look"))
  | ((with_reducible refine' TU.tz ?z ?m); (case z => walk_at "tz"); (case m => walk_at "look"))
  | ((with_reducible refine' RpL.tz ?z ?m); (case z => walk_at "tz"); (case m => walk_at "look"))
  | ((with_reducible refine' GM.fz ?z ?m); (case z => walk_at "fz"); (case m => walk_at "look"))
  | ((with_reducible refine' But.app' ?b ?n ?m); (case b => with_reducible assumption); (case n => first | assumption | (refine Ne.symm ?_; assumption)); (case m => walk_at "look"))
  | ((with_reducible refine' But.app ?b ?l ?d ?m); (case b => with_reducible assumption); (case m => walk_at "look"); (case l => walk_at "look"); (case d => (intro z; cases z))))
local macro_rules | `(tactic| walk_at "rp") => `(tactic| first
  | (with_reducible assumption)
  | walk_at "look"
  | exact Rp.bl _ | exact Rp.int _ | exact Rp.str _ | exact Rp.non
  | ((refine' Rp.tup ?h ?l); (case h => walk_at "look"); (case l => walk_at "rpl")))
local macro_rules | `(tactic| walk_at "rpl") => `(tactic| first
  | exact RpL.nil
  | ((refine' RpL.cons ?h ?l); (case h => walk_at "rp"); (case l => walk_at "rpl")))
local macro_rules | `(tactic| walk_at "vc") => `(tactic| repeat (first
  | with_reducible refine' x_seq ?_
  | with_reducible refine' x_ifS ?_
  | with_reducible refine' x_asg ?_
  | with_reducible refine' x_drop ?_
  | with_reducible refine' x_ret ?_
  | with_reducible refine' x_name ?_
  | with_reducible refine' x_c ?_
  | ((with_reducible refine' x_var ?h ?_); (case h => rfl))
  | with_reducible refine' x_op ?_
  | with_reducible refine' x_un ?_
  | with_reducible refine' x_tup ?_
  | with_reducible refine' x_lst ?_
  | ((with_reducible refine' x_gtup ?h ?l ?_); (case h => walk_at "look"); (case l => rfl))
  | ((with_reducible refine' x_gtup' ?h ?l ?_); (case h => walk_at "look"); (case l => rfl))
  | with_reducible refine' x_gcons ?_
  | with_reducible refine' x_gnil ?_
  | with_reducible refine' x_nil ?_
  | with_reducible refine' x_cons ?_
  | with_reducible refine' x_call ?_
  | with_reducible refine' x_meth ?_
  | ((with_reducible refine' x_methv ?h ?l ?_); (case h => walk_at "look"); (case l => first | rfl | decide +kernel))
  | with_reducible refine' x_make ?_
  | with_reducible refine' x_cb ?_
  | with_reducible refine' x_test ?_
  | with_reducible refine' x_B ?_
  | with_reducible refine' x_and ?_
  | with_reducible refine' x_or ?_
  | with_reducible refine' x_not ?_
  | with_reducible refine' x_if ?_
  | with_reducible refine' x_andV ?_
  | with_reducible refine' x_orV ?_
  | with_reducible refine' x_notV ?_
  | with_reducible refine' x_next ?_
  | with_reducible refine' x_gfldc ?_
  | with_reducible refine' x_bmF ?_
  | with_reducible refine' x_bmF0 ?_
  | ((with_reducible refine' y_tyL ?h ?_); (case h => walk_at "look"))
  | ((with_reducible refine' y_tyD ?h ?_); (case h => walk_at "look"))
  | ((with_reducible refine' y_lenL ?h ?_); (case h => walk_at "look"))
  | ((with_reducible refine' y_lenR ?h ?_); (case h => walk_at "look"))
  | with_reducible refine' x_forT ?_
  | with_reducible refine' x_forL ?_
  | with_reducible refine' x_lcT ?_
  | with_reducible refine' x_lcL ?_
  | ((with_reducible refine' y_tupleL ?h ?_); (case h => walk_at "look"); intro _ _ _ _ _)
  | ((with_reducible refine' y_tupleR ?h ?_); (case h => walk_at "look"))
  | ((with_reducible refine' y_tupleT ?h ?_); (case h => walk_at "look"))
  | with_reducible refine' x_cont ?_
  | with_reducible refine' x_dget ?_
  | with_reducible refine' x_din ?_
  | with_reducible refine' x_dput ?_
  | ((with_reducible refine' x_dnewN ?_); intro _ _ _ _ _)
  | with_reducible refine' x_nget2 ?_
  | with_reducible refine' x_nput ?_
  | with_reducible refine' x_lcN ?_
  | with_reducible refine' x_lcKF ?_
  | with_reducible refine' x_itemsN ?_
  | ((with_reducible refine' x_dnewK ?_); intro _ _ _ _ _)
  | with_reducible refine' x_forRev ?_
  | with_reducible refine' x_sl ?_
  | with_reducible refine' x_nopart ?_
  | with_reducible refine' x_part ?_
  | with_reducible refine' x_partI ?_
  | with_reducible refine' x_revL ?_
  | with_reducible refine' x_sfldc ?_
  | with_reducible refine' x_bl ?_
  | ((with_reducible refine' x_fldc ?h ?l ?_); (case h => walk_at "look"); (case l => first | rfl | decide +kernel))
  | ((with_reducible refine' x_setc ?h ?l ?_); (case h => walk_at "look"); (case l => exact Nat.le_of_ble_eq_true rfl); intro _ _ _)
  | ((with_reducible refine' y_num ?h ?_); (case h => walk_at "look"))
  | ((with_reducible refine' y_den ?h ?_); (case h => walk_at "look"))
  | with_reducible refine' y_I0 ?_
  | ((with_reducible refine' y_ixS ?h ?e ?a ?_); (case h => walk_at "look"); (case e => rfl); (case a => rfl))
  | ((with_reducible refine' y_ixI ?h ?e ?a ?_); (case h => walk_at "look"); (case e => rfl); (case a => rfl))
  | ((with_reducible refine' y_ixB ?h ?e ?a ?_); (case h => walk_at "look"); (case e => rfl); (case a => rfl))
  | ((with_reducible refine' y_ixR ?h ?e ?a ?_); (case h => walk_at "look"); (case e => rfl); (case a => rfl); intro _ _)
  | ((with_reducible refine' y_ixT ?h ?a ?_); (case h => walk_at "look"); (case a => rfl))
  | ((with_reducible refine' y_eq ?s ?_); (case s => rfl))
  | ((with_reducible refine' y_ne ?s ?_); (case s => rfl))
  | ((with_reducible refine' x_rtup ?l ?_); (case l => exact Nat.le_of_ble_eq_true rfl); intro _ _ _ _ _)
  | ((with_reducible refine' x_rlst ?l ?_); (case l => exact Nat.le_of_ble_eq_true rfl); intro _ _ _ _ _)
  | ((with_reducible refine' ite_t ?h ?_); (case h => first | with_reducible rfl | assumption | exact decide_eq_true (by omega) | decide +kernel | rfl))
  | ((with_reducible refine' ite_f ?h ?_); (case h => first | with_reducible rfl | assumption | exact decide_eq_false (by omega) | decide +kernel | rfl))))
def sp_until (K : PySem.W.Frag) : Sp := fun vs H Q _ => ∃ (x y : V) (n s s' : Nat), vs = [x, y] ∧ GM K H x n s ∧ GM K H y n s' ∧ 0 < n ∧ n < 60 ∧ ∀ v H', Same H H' → BdAt K H' v 0 0 (mkRat 1 n) → Q v H'
abbrev derF (f l b : V) : List (Str × V) := [("first", f), ("last", l), ("bound", b)]
def sp_Derivation_init (K : PySem.W.Frag) : Sp := fun vs H Q _ => ∃ (p dx : Addr) (g : V), vs = [.ref p, g] ∧ H p = some (.ins (He.ga K "Derivation") dx []) ∧ ∀ H' b, But p H H' → H' p = some (.ins (He.ga K "Derivation") dx (derF g g b)) → BdAt K H' b 0 0 0 → Q .non H'
def sp_Derivation_move (K : PySem.W.Frag) : Sp := fun vs H Q _ => ∃ (p dx : Addr) (f l b g m : V) (n : Nat), vs = [.ref p, g, m] ∧ H p = some (.ins (He.ga K "Derivation") dx (derF f l b)) ∧ BdAt K H b 0 0 0 ∧ BdAt K H m 0 0 (mkRat 1 n) ∧ 0 < n ∧ n < 60 ∧ ∀ H' b', But p H H' → H' p = some (.ins (He.ga K "Derivation") dx (derF f g b')) → BdAt K H' b' 0 0 (mkRat 1 n) → Q .non H'
def sp_Derivation_step (K : PySem.W.Frag) : Sp := fun vs H Q _ => ∃ (p dx t : Addr) (f l b g : V) (n s s' : Nat), vs = [.ref p, .ref t] ∧ H p = some (.ins (He.ga K "Derivation") dx (derF f l b)) ∧ TU H t [.str "until", g] ∧ GM K H l n s ∧ GM K H g n s' ∧ BdAt K H b 0 0 0 ∧ 0 < n ∧ n < 60 ∧ ∀ H' b', But p H H' → H' p = some (.ins (He.ga K "Derivation") dx (derF f g b')) → BdAt K H' b' 0 0 (mkRat 1 n) → Q .non H'
section
variable {P : Program} {w : World} {K : PySem.W.Frag} {mg : Str → Option Value} {base : Heap}
theorem sc_until : FnScope ["game", "other"] ["game", "other"] (defScope s_until) := ⟨rfl, rfl, rfl, by decide +kernel, rfl, by decide +kernel, by decide +kernel⟩
theorem sc_Derivation_init : FnScope ["self", "game"] ["self", "game"] (defScope s_Derivation_init) := ⟨rfl, rfl, rfl, by decide +kernel, rfl, by decide +kernel, by decide +kernel⟩
theorem sc_Derivation_move : FnScope ["self", "game", "more"] ["self", "game", "more"] (defScope s_Derivation_move) := ⟨rfl, rfl, rfl, by decide +kernel, rfl, by decide +kernel, by decide +kernel⟩
theorem sc_Derivation_step : FnScope ["self", "step", "rule", "more", "flat"] ["self", "step"] (defScope s_Derivation_step) := ⟨rfl, rfl, rfl, by decide +kernel, rfl, by decide +kernel, by decide +kernel⟩
theorem ok_until (T : Tx K mg) {fd : FuncData} (F : FnX K d_until fd) : FnOk P w K mg base CX0 6 (He.fAd K d_until.at_) fd ["game", "other"] (sp_until K) := by
  refine F.ok sc_until (fun vs H Q E h => ?_) (fun cdv A outer s0 H vs Q E hr h => ?_)
  · obtain ⟨x, y, n, s, s', rfl, _⟩ := h
    rfl
  obtain ⟨x, y, n, s, s', rfl, hx, hy, n0, hn, q⟩ := h
  refine ⟨_, PSs.nox (pss_cons (ps_if (pt_not (pt_val (pe_cal (c_alike T) (hr.mono (by omega)) rfl T.g_alike (pa_cons (pv 0) (pa_cons (pv 1) pa_nil))))) pss_never pss_nil)
      (pss_one (ps_ret (pe_cal (c_counted T) (hr.mono (by omega)) rfl T.g_counted (pa_cons (pv 0) pa_nil))))), ?_⟩
  walk_at "vc"
  refine ⟨x, y, n, s, s', rfl, hx, hy, fun H1 s1 => ?_⟩
  walk_at "vc"
  exact ⟨x, n, s, rfl, hx.same s1, n0, hn, fun v H' s2 hv => q v H' (s1.trans s2) hv⟩
theorem c_until (T : Tx K mg) : Cal P w K mg base 6 d_until ["game", "other"] [] (sp_until K) :=
  Cal.of T.d_until rfl rfl (fun _ _ _ _ _ _ us hl => match us, hl with | [_, _], _ => rfl) fun fd F => ok_until T F
theorem ok_Derivation_init (T : Tx K mg) {fd : FuncData} (F : FnX K d_Derivation_init fd) : FnOk P w K mg base CX0 4 (He.fAd K d_Derivation_init.at_) fd ["self", "game"] (sp_Derivation_init K) := by
  refine F.ok sc_Derivation_init (fun vs H Q E h => ?_) (fun cdv A outer s0 H vs Q E hr h => ?_)
  · obtain ⟨p, dx, g, rfl, _⟩ := h
    rfl
  obtain ⟨p, dx, g, rfl, hp, q⟩ := h
  refine ⟨_, PSs.nox (pss_cons (ps_fldc T.cl_Derivation T.n_Derivation_first (pv 0) (pv 1))
      (pss_cons (ps_fldc T.cl_Derivation T.n_Derivation_last (pv 0) (pv 1))
      (pss_one (ps_fldc T.cl_Derivation T.n_Derivation_bound (pv 0) (pe_cal0 (c_nothing T) (hr.mono (by omega)) rfl T.g_nothing))))), ?_⟩
  walk_at "vc"
  rename_i H1 b1 e1 H2 b2 e2
  refine ⟨rfl, fun v3 H3 s3 h3 => ?_⟩
  have e3 := s3 _ _ e2
  walk_at "vc"
  rename_i H4 b4 e4
  exact q H4 v3 (((b1.trans b2).same s3).trans b4) e4 (h3.fz (Fz.but b4 e3 T.nf_Derivation))
theorem c_Derivation_init (T : Tx K mg) : Cal P w K mg base 4 d_Derivation_init ["self", "game"] [] (sp_Derivation_init K) :=
  Cal.of T.d_Derivation_init rfl rfl (fun _ _ _ _ _ _ us hl => match us, hl with | [_, _], _ => rfl) fun fd F => ok_Derivation_init T F
theorem ok_Derivation_move (T : Tx K mg) {fd : FuncData} (F : FnX K d_Derivation_move fd) : FnOk P w K mg base CX0 5 (He.fAd K d_Derivation_move.at_) fd ["self", "game", "more"] (sp_Derivation_move K) := by
  refine F.ok sc_Derivation_move (fun vs H Q E h => ?_) (fun cdv A outer s0 H vs Q E hr h => ?_)
  · obtain ⟨p, dx, f, l, b, g, m, n, rfl, _⟩ := h
    rfl
  obtain ⟨p, dx, f, l, b, g, m, n, rfl, hp, hb, hm, n0, hn, q⟩ := h
  refine ⟨_, PSs.nox (pss_cons (ps_fldc T.cl_Derivation T.n_Derivation_bound (pv 0) (pe_metc (c_Bound_plus T) (pe_fldc T.cl_Derivation T.n_Derivation_bound (pv 0)) T.cl_Bound T.m_Bound_plus (hr.mono (by omega)) (pa_cons (pv 2) pa_nil)))
      (pss_one (ps_fldc T.cl_Derivation T.n_Derivation_last (pv 0) (pv 1)))), ?_⟩
  have sm1 := sm_1n n hn n0
  obtain ⟨pb, dxb, a1, a2, a3, rfl, hpb, _⟩ := id hb
  walk_at "vc"
  refine ⟨_, _, 0, 0, 0, 0, 0, mkRat 1 n, rfl, hb, hm, by decide +kernel, by decide +kernel, by decide +kernel, by decide +kernel, by decide +kernel, sm1, by decide +kernel, by decide +kernel, ?_, fun v1 H1 s1 h1 => ?_⟩
  · rw [Rat.zero_add]
    exact nn_1n n hn n0
  rw [Rat.zero_add, Rat.zero_add] at h1
  have hp1 := s1 _ _ hp
  walk_at "vc"
  rename_i H2 b2 e2 H3 b3 e3
  exact q H3 v1 (((Same.buts s1 b2)).trans b3) e3 ((h1.fz (Fz.but b2 hp1 T.nf_Derivation)).fz (Fz.but b3 e2 T.nf_Derivation))
theorem c_Derivation_move (T : Tx K mg) : Cal P w K mg base 5 d_Derivation_move ["self", "game", "more"] [] (sp_Derivation_move K) :=
  Cal.of T.d_Derivation_move rfl rfl (fun _ _ _ _ _ _ us hl => match us, hl with | [_, _, _], _ => rfl) fun fd F => ok_Derivation_move T F
theorem ok_Derivation_step (T : Tx K mg) {fd : FuncData} (F : FnX K d_Derivation_step fd) : FnOk P w K mg base CX0 7 (He.fAd K d_Derivation_step.at_) fd ["self", "step"] (sp_Derivation_step K) := by
  refine F.ok sc_Derivation_step (fun vs H Q E h => ?_) (fun cdv A outer s0 H vs Q E hr h => ?_)
  · obtain ⟨p, dx, t, f, l, b, g, n, s, s', rfl, _⟩ := h
    rfl
  obtain ⟨p, dx, t, f, l, b, g, n, s, s', rfl, hp, ht, hl, hg, hb, n0, hn, q⟩ := h
  refine ⟨_, PSs.nox (pss_cons (ps_set (i := 2) sc_Derivation_step.nd rfl (Or.inl rfl) (pe_ix ix_tupF (pv 1) pe_int (fun _ _ => rfl)))
      (pss_one (ps_if (pt_cmpR op_in_seq (pv 2) (pe_glob (v := .ref (He.ga K "SAME")) rfl T.g_SAME rfl) (by with_unfolding_all rfl)) pss_never (pss_one (ps_if (pt_cmpR op_eq (pv 2) pe_str (nomark _)) pss_never (pss_one (ps_if (pt_cmpR op_eq (pv 2) pe_str (nomark _)) (pss_cons (ps_set (i := 3) sc_Derivation_step.nd rfl (Or.inl rfl) (pe_cal (c_until T) (hr.mono (by omega)) rfl T.g_until (pa_cons (pe_fldc T.cl_Derivation T.n_Derivation_last (pv 0)) (pa_cons (pe_ix ix_tupF (pv 1) pe_int (fun _ _ => rfl)) pa_nil))))
      (pss_one (ps_expr (pe_metc (c_Derivation_move T) (pv 0) T.cl_Derivation T.m_Derivation_move (hr.mono (by omega)) (pa_cons (pe_ix ix_tupF (pv 1) pe_int (fun _ _ => rfl)) (pa_cons (pv 3) pa_nil)))))) (pss_one (ps_if (pt_cmpR op_eq (pv 2) pe_str (nomark _)) pss_never (pss_one (ps_if (pt_cmpR op_eq (pv 2) pe_str (nomark _)) pss_never pss_never))))))))))), ?_⟩
  walk_at "vc"
  refine ⟨_, _, rfl, .inr (He.tupB_ok T.exs.2.2.2.2.2 H), rfl, by rfl, ?_⟩
  walk_at "vc"
  refine ⟨l, g, n, s, s', rfl, hl, hg, n0, hn, fun v1 H1 s1 h1 => ?_⟩
  have hp1 := s1 _ _ hp
  have ht1 := ht.same s1
  walk_at "vc"
  exact ⟨p, dx, f, l, b, g, v1, n, rfl, hp1, hb.same s1, h1, n0, hn, fun H' b' bt e' hb' => q H' b' (Same.buts s1 bt) e' hb'⟩
theorem c_Derivation_step (T : Tx K mg) : Cal P w K mg base 7 d_Derivation_step ["self", "step"] [] (sp_Derivation_step K) :=
  Cal.of T.d_Derivation_step rfl rfl (fun _ _ _ _ _ _ us hl => match us, hl with | [_, _], _ => rfl) fun fd F => ok_Derivation_step T F
end
end Tn
set_option Elab.async false
set_option linter.all false
set_option maxRecDepth 100000
set_option maxHeartbeats 4000000
set_option pp.maxSteps 400
namespace Tn
open PySem PySem.Spec L2
/-! ### players -/
def Py : Nat → Type
  | 0 => Bool
  | k + 1 => Bool ⊕ (List (Py k) ⊕ List (Nat × Py k))
def plD : (k : Nat) → Py k → PyData
  | 0, b => .tuple [.str "say", .bool b]
  | _ + 1, .inl b => .tuple [.str "say", .bool b]
  | k + 1, .inr (.inl ps) => .tuple [.str "toss", .tuple (ps.map (plD k))]
  | k + 1, .inr (.inr qs) => .tuple [.str "ask", .str "p", .int 0, .tuple (qs.map fun q => .tuple [.int (q.1 : Nat), plD k q.2])]
def mx (l : List Nat) : Nat := l.foldr max 0
def clP : (k : Nat) → Py k → Nat
  | 0, _ => 0
  | _ + 1, .inl _ => 0
  | k + 1, .inr (.inl ps) => mx (ps.map (clP k))
  | k + 1, .inr (.inr qs) => 1 + mx (qs.map fun q => clP k q.2)
/-- players that the checks let pass -/
def okP : (k : Nat) → Py k → Prop
  | 0, _ => True
  | _ + 1, .inl _ => True
  | k + 1, .inr (.inl ps) => ps ≠ [] ∧ ps.length ≤ 3 ∧ ∀ p ∈ ps, okP k p
  | k + 1, .inr (.inr qs) => qs.length ≤ 60 ∧ (qs.map (·.1)).Nodup ∧ ∀ q ∈ qs, okP k q.2
theorem mx_le : ∀ {l : List Nat} {c : Nat}, c ∈ l → c ≤ mx l
  | a :: l, c, h => by
    rcases List.mem_cons.mp h with rfl | h
    · exact Nat.le_max_left _ _
    · exact Nat.le_trans (mx_le h) (Nat.le_max_right _ _)
theorem mx_mem : ∀ {l : List Nat}, l ≠ [] → mx l ∈ l
  | [a], _ => by simp [mx]
  | a :: b :: l, _ => by
    have := mx_mem (l := b :: l) (by simp)
    show max a (mx (b :: l)) ∈ _
    rcases Nat.le_total a (mx (b :: l)) with h | h
    · rw [Nat.max_eq_right h]
      exact List.mem_cons_of_mem _ this
    · rw [Nat.max_eq_left h]
      exact List.mem_cons_self ..
theorem mx_int {l : List Nat} {m : Int} (h1 : m ∈ l.map fun (c : Nat) => (c : Int)) (h2 : ∀ y ∈ l.map (fun (c : Nat) => (c : Int)), y ≤ m) : m = (mx l : Nat) := by
  obtain ⟨c, hc, rfl⟩ := List.mem_map.mp h1
  have a := mx_le hc
  have b := h2 _ (List.mem_map.mpr ⟨mx l, mx_mem (fun z => by rw [z] at hc; cases hc), rfl⟩)
  omega
theorem ints_of {acc : List V} {ns : List Nat} (hl : acc.length = ns.length) (h : ∀ (i : Nat) y, acc[i]? = some y → ∃ c, ns[i]? = some c ∧ y = .int (c : Nat)) : acc = (ns.map fun (c : Nat) => (c : Int)).map V.int := by
  refine List.ext_getElem? fun i => ?_
  rw [List.map_map, List.getElem?_map]
  cases e : acc[i]? with
  | none =>
    have : ns.length ≤ i := by rw [← hl]; exact List.getElem?_eq_none_iff.mp e
    rw [List.getElem?_eq_none_iff.mpr this]
    rfl
  | some y =>
    obtain ⟨c, h1, rfl⟩ := h i y e
    rw [h1]
    rfl
local macro_rules | `(tactic| walk_at "tz") => `(tactic| first
  | ((refine' Tz.same ?s); (case s => with_reducible assumption))
  | ((refine' Tz.but ?b ?h ?n); (case b => with_reducible assumption); (case h => walk_at "look"); (case n => (intro o v z; cases z))))
local macro_rules | `(tactic| walk_at "fz") => `(tactic| first
  | ((refine' Fz.same ?s); (case s => with_reducible assumption))
  | ((refine' Fz.but ?b ?h ?n); (case b => with_reducible assumption); (case h => walk_at "look"); (case n => first | exact nf_lst | exact nf_dK | exact nf_ext | assumption)))
local macro_rules | `(tactic| walk_at "look") => `(tactic| first
  | with_reducible assumption
  | ((with_reducible refine' Same.app ?s ?m); (case s => with_reducible assumption); (case m => walk_at "look"))
  | ((with_reducible refine' RR.fz ?z ?m); (case z => walk_at "fz"); (case m => walk_at "look"))
  | ((with_reducible refine' Rp.tz ?z ?m); (case z => walk_at "tz"); (case m => walk_at "look"))
  | ((with_reducible refine' TU.tz ?z ?m); (case z => walk_at "tz"); (case m => walk_at "look"))
  | ((with_reducible refine' RpL.tz ?z ?m); (case z => walk_at "tz"); (case m => walk_at "look"))
  | ((with_reducible refine' GM.fz ?z ?m); (case z => walk_at "fz"); (case m => walk_at "look"))
  | ((with_reducible refine' But.app' ?b ?n ?m); (case b => with_reducible assumption); (case n => first | assumption | (refine Ne.symm ?_; assumption)); (case m => walk_at "look"))
  | ((with_reducible refine' But.app ?b ?l ?d ?m); (case b => with_reducible assumption); (case m => walk_at "look"); (case l => walk_at "look"); (case d => (intro z; cases z))))
local macro_rules | `(tactic| walk_at "rp") => `(tactic| first
  | (with_reducible assumption)
  | walk_at "look"
  | exact Rp.bl _ | exact Rp.int _ | exact Rp.str _ | exact Rp.non
  | ((refine' Rp.tup ?h ?l); (case h => walk_at "look"); (case l => walk_at "rpl")))
local macro_rules | `(tactic| walk_at "rpl") => `(tactic| first
  | exact RpL.nil
  | ((refine' RpL.cons ?h ?l); (case h => walk_at "rp"); (case l => walk_at "rpl")))
local macro_rules | `(tactic| walk_at "vc") => `(tactic| repeat (first
  | with_reducible refine' x_seq ?_
  | with_reducible refine' x_ifS ?_
  | with_reducible refine' x_asg ?_
  | with_reducible refine' x_drop ?_
  | with_reducible refine' x_ret ?_
  | with_reducible refine' x_name ?_
  | with_reducible refine' x_c ?_
  | ((with_reducible refine' x_var ?h ?_); (case h => rfl))
  | with_reducible refine' x_op ?_
  | with_reducible refine' x_un ?_
  | with_reducible refine' x_tup ?_
  | with_reducible refine' x_lst ?_
  | ((with_reducible refine' x_gtup ?h ?l ?_); (case h => walk_at "look"); (case l => rfl))
  | ((with_reducible refine' x_gtup' ?h ?l ?_); (case h => walk_at "look"); (case l => rfl))
  | with_reducible refine' x_gcons ?_
  | with_reducible refine' x_gnil ?_
  | with_reducible refine' x_nil ?_
  | with_reducible refine' x_cons ?_
  | with_reducible refine' x_call ?_
  | with_reducible refine' x_meth ?_
  | ((with_reducible refine' x_methv ?h ?l ?_); (case h => walk_at "look"); (case l => first | rfl | decide +kernel))
  | with_reducible refine' x_make ?_
  | with_reducible refine' x_cb ?_
  | with_reducible refine' x_test ?_
  | with_reducible refine' x_B ?_
  | with_reducible refine' x_and ?_
  | with_reducible refine' x_or ?_
  | with_reducible refine' x_not ?_
  | with_reducible refine' x_if ?_
  | with_reducible refine' x_andV ?_
  | with_reducible refine' x_orV ?_
  | with_reducible refine' x_notV ?_
  | with_reducible refine' x_next ?_
  | with_reducible refine' x_gfldc ?_
  | with_reducible refine' x_bmF ?_
  | with_reducible refine' x_bmF0 ?_
  | ((with_reducible refine' y_tyL ?h ?_); (case h => walk_at "look"))
  | ((with_reducible refine' y_tyD ?h ?_); (case h => walk_at "look"))
  | ((with_reducible refine' y_lenL ?h ?_); (case h => walk_at "look"))
  | ((with_reducible refine' y_lenR ?h ?_); (case h => walk_at "look"))
  | with_reducible refine' x_forT ?_
  | with_reducible refine' x_forL ?_
  | with_reducible refine' x_lcT ?_
  | with_reducible refine' x_lcL ?_
  | ((with_reducible refine' y_tupleL ?h ?_); (case h => walk_at "look"); intro _ _ _ _ _)
  | ((with_reducible refine' y_tupleR ?h ?_); (case h => walk_at "look"))
  | ((with_reducible refine' y_tupleT ?h ?_); (case h => walk_at "look"))
  | with_reducible refine' x_cont ?_
  | with_reducible refine' x_dget ?_
  | with_reducible refine' x_din ?_
  | with_reducible refine' x_dput ?_
  | ((with_reducible refine' x_dnewN ?_); intro _ _ _ _ _)
  | with_reducible refine' x_nget2 ?_
  | with_reducible refine' x_nput ?_
  | with_reducible refine' x_lcN ?_
  | with_reducible refine' x_lcKF ?_
  | with_reducible refine' x_itemsN ?_
  | ((with_reducible refine' x_dnewK ?_); intro _ _ _ _ _)
  | with_reducible refine' x_forRev ?_
  | with_reducible refine' x_sl ?_
  | with_reducible refine' x_nopart ?_
  | with_reducible refine' x_part ?_
  | with_reducible refine' x_partI ?_
  | with_reducible refine' x_revL ?_
  | with_reducible refine' x_sfldc ?_
  | with_reducible refine' x_bl ?_
  | ((with_reducible refine' x_fldc ?h ?l ?_); (case h => walk_at "look"); (case l => first | rfl | decide +kernel))
  | ((with_reducible refine' x_setc ?h ?l ?_); (case h => walk_at "look"); (case l => exact Nat.le_of_ble_eq_true rfl); intro _ _ _)
  | ((with_reducible refine' y_num ?h ?_); (case h => walk_at "look"))
  | ((with_reducible refine' y_den ?h ?_); (case h => walk_at "look"))
  | with_reducible refine' y_I0 ?_
  | ((with_reducible refine' y_ixS ?h ?e ?a ?_); (case h => walk_at "look"); (case e => rfl); (case a => rfl))
  | ((with_reducible refine' y_ixI ?h ?e ?a ?_); (case h => walk_at "look"); (case e => rfl); (case a => rfl))
  | ((with_reducible refine' y_ixB ?h ?e ?a ?_); (case h => walk_at "look"); (case e => rfl); (case a => rfl))
  | ((with_reducible refine' y_ixR ?h ?e ?a ?_); (case h => walk_at "look"); (case e => rfl); (case a => rfl); intro _ _)
  | ((with_reducible refine' y_ixT ?h ?a ?_); (case h => walk_at "look"); (case a => rfl))
  | ((with_reducible refine' y_eq ?s ?_); (case s => rfl))
  | ((with_reducible refine' y_ne ?s ?_); (case s => rfl))
  | ((with_reducible refine' x_rtup ?l ?_); (case l => exact Nat.le_of_ble_eq_true rfl); intro _ _ _ _ _)
  | ((with_reducible refine' x_rlst ?l ?_); (case l => exact Nat.le_of_ble_eq_true rfl); intro _ _ _ _ _)
  | ((with_reducible refine' ite_t ?h ?_); (case h => first | with_reducible rfl | assumption | exact decide_eq_true (by omega) | decide +kernel | rfl))
  | ((with_reducible refine' ite_f ?h ?_); (case h => first | with_reducible rfl | assumption | exact decide_eq_false (by omega) | decide +kernel | rfl))))
def sp_calls_of (K : PySem.W.Frag) (k : Nat) : Sp := fun vs H Q _ => ∃ (v : V) (p : Py k), vs = [v] ∧ Rp H v (plD k p) ∧ okP k p ∧ ∀ H', Same H H' → Q (.int (clP k p : Nat)) H'
def prevC (K : PySem.W.Frag) : Nat → Sp
  | 0 => spNo
  | k + 1 => sp_calls_of K k
section
variable {P : Program} {w : World} {K : PySem.W.Frag} {mg : Str → Option Value} {base : Heap}
theorem sc_calls_of : FnScope ["player", "part", "_"] ["player"] (defScope s_calls_of) := ⟨rfl, rfl, rfl, by decide +kernel, rfl, by decide +kernel, by decide +kernel⟩
theorem n_calls_of (T : Tx K mg) : Cal P w K mg base 1 d_calls_of ["player"] [] spNo := Cal.of T.d_calls_of rfl rfl (fun _ _ _ _ _ _ us hl => match us, hl with | [_], _ => rfl) fun fd F => F.ok sc_calls_of (fun _ _ _ _ h => h.elim) (fun _ _ _ _ _ _ _ _ _ h => h.elim)
theorem ok_calls_of (T : Tx K mg) (k : Nat) (ih : Cal P w K mg base (k + 1) d_calls_of ["player"] [] (prevC K k)) {fd : FuncData} (F : FnX K d_calls_of fd) : FnOk P w K mg base CX0 (k + 2) (He.fAd K d_calls_of.at_) fd ["player"] (sp_calls_of K k) := by
  refine F.ok sc_calls_of (fun vs H Q E h => ?_) (fun cdv A outer s0 H vs Q E hr h => ?_)
  · obtain ⟨v, p, rfl, _⟩ := h
    rfl
  obtain ⟨v, p, rfl, hv, hok, q⟩ := h
  refine ⟨_, PSs.nox (pss_cons (ps_if (pt_cmpR op_eq (pe_ix ix_tupF (pv 0) pe_int (fun _ _ => rfl)) pe_str (nomark _)) (pss_one (ps_ret pe_int)) pss_nil)
      (pss_cons (ps_if (pt_cmpR op_eq (pe_ix ix_tupF (pv 0) pe_int (fun _ _ => rfl)) pe_str (nomark _)) (pss_one (ps_ret (pe_callB (cr_max rfl) (by rfl) T.f_max (by decide +kernel) (pa_cons (pe_lc (own := [("part", 1)]) (g := gName 1) (tt := tYes) (by rfl) sc_calls_of.nd (pi_tup (pe_ix ix_tupF (pv 0) pe_int (fun _ _ => rfl))) (blkOk_by (own := [("part", 1)]) (N := ["player", "part", "_"]) (sc := defScope s_calls_of) (by decide +kernel)) (fun _ _ _ _ _ => (pg_name (i := 1) sc_calls_of.nd rfl (Or.inl rfl))) (fun _ _ _ _ _ => pts_nil) (fun _ _ _ _ _ => (pe_cal ih (hr.mono (by omega)) rfl T.g_calls_of (pa_cons (pv 1) pa_nil)))) pa_nil)))) pss_nil)
      (pss_one (ps_ret (pe_op op_add pe_int (pe_callB (cr_max rfl) (by rfl) T.f_max (by decide +kernel) (pa_cons (pe_op op_cat (pe_lst (pa_cons pe_int pa_nil)) (pe_lc (own := [("_", 2), ("part", 1)]) (g := gTup K 2 (gCons (gName 2) (gCons (gName 1) gNil))) (tt := tYes) (by rfl) sc_calls_of.nd (pi_tup (pe_ix ix_tupF (pv 0) pe_int (fun _ _ => rfl))) (blkOk_by (own := [("_", 2), ("part", 1)]) (N := ["player", "part", "_"]) (sc := defScope s_calls_of) (by decide +kernel)) (fun _ _ _ _ _ => (pg_tup rfl (pgs_cons (pg_name (i := 2) sc_calls_of.nd rfl (Or.inl rfl)) (pgs_cons (pg_name (i := 1) sc_calls_of.nd rfl (Or.inl rfl)) pgs_nil)))) (fun _ _ _ _ _ => pts_nil) (fun _ _ _ _ _ => (pe_cal ih (hr.mono (by omega)) rfl T.g_calls_of (pa_cons (pv 1) pa_nil))))) pa_nil))))))), ?_⟩
  cases k with
  | zero =>
    have hv : Rp H v (.tuple [.str "say", .bool p]) := hv
    walk_at "vc"
    exact q _ fun _ _ e => e
  | succ k =>
    rcases p with b | ps | qs
    · have hv : Rp H v (.tuple [.str "say", .bool b]) := hv
      walk_at "vc"
      exact q _ fun _ _ e => e
    · have hv : Rp H v (.tuple [.str "toss", .tuple (ps.map (plD k))]) := hv
      obtain ⟨h1, h2, h3⟩ := hok
      walk_at "vc"
      rename_i u hu
      obtain ⟨a1, x1, rfl, t1, r1⟩ := hu.t_
      have hx1 : x1.length = ps.length := by rw [r1.len, List.length_map]
      refine y_lcT (fun D i v H => ∃ c, (ps.map (clP k))[i]? = some c ∧ v = .int (c : Nat)) (fun D ys i v H H' hD b r => r) t1 (by omega) (fun D i x' H' acc hi hD s1 hacc Q' q' => ?_) mg_name fun D H1 acc hD s1 hacc hla hr1 => ?_
      · obtain ⟨d, hd, hr'⟩ := r1.get' hi
        rw [List.getElem?_map] at hd
        obtain ⟨p', hp', rfl⟩ := Option.map_eq_some_iff.mp hd
        walk_at "vc"
        refine ⟨rfl, ?_⟩
        walk_at "vc"
        exact ⟨x', p', rfl, hr'.same s1, h3 p' (List.mem_of_getElem? hp'), fun H2 s2 => q' _ _ s2 ⟨clP k p', by rw [List.getElem?_map, hp']; rfl, rfl⟩⟩
      have ea := ints_of (by rw [hla, hx1, List.length_map]) hr1
      subst ea
      walk_at "vc"
      refine ⟨D, _, rfl, SqL.of hacc, ?_, fun m hm hy => ?_⟩
      · rw [List.length_map, List.length_map]
        exact List.length_pos_iff.mpr h1
      rw [mx_int hm hy]
      exact q _ s1
    · have hv : Rp H v (.tuple [.str "ask", .str "p", .int 0, .tuple (qs.map fun q => .tuple [.int (q.1 : Nat), plD k q.2])]) := hv
      obtain ⟨h1, h2, h3⟩ := hok
      walk_at "vc"
      rename_i l0 H0 f0 s0' e0 u hu
      obtain ⟨a1, x1, rfl, t1, r1⟩ := hu.t_
      have hx1 : x1.length = qs.length := by rw [r1.len, List.length_map]
      refine y_lcT (fun D i v H => ∃ c, (qs.map fun q => clP k q.2)[i]? = some c ∧ v = .int (c : Nat)) (fun D ys i v H H' hD b r => r) t1 (by omega) (fun D i x' H' acc hi hD s1 hacc Q' q' => ?_) (mg_tup (mg_cons mg_name (mg_cons mg_name mg_nil))) fun D H1 acc hD s1 hacc hla hr1 => ?_
      · obtain ⟨d, hd, hr'⟩ := r1.get' hi
        rw [List.getElem?_map] at hd
        obtain ⟨p', hp', rfl⟩ := Option.map_eq_some_iff.mp hd
        obtain ⟨at2, xs2, rfl, t2, r2⟩ := (hr'.same s1).t_
        cases r2 with
        | @cons v1 _ _ _ g1 r2 =>
        cases r2 with
        | @cons v2 _ _ _ g2 r2 =>
        cases r2
        walk_at "vc"
        refine ⟨rfl, ?_⟩
        walk_at "vc"
        exact ⟨v2, p'.2, rfl, g2, h3 p' (List.mem_of_getElem? hp'), fun H2 s2 => q' _ _ s2 ⟨clP k p'.2, by rw [List.getElem?_map, hp']; rfl, rfl⟩⟩
      have ea := ints_of (by rw [hla, hx1, List.length_map]) hr1
      subst ea
      walk_at "vc"
      refine x_cat (s1 _ _ e0) hacc (by rw [List.length_map, List.length_map, List.length_map]; simp; omega) fun p8 H8 f8 s8 e8 => ?_
      walk_at "vc"
      refine ⟨p8, (0 :: qs.map fun q : Nat × Py k => clP k q.2).map fun (c : Nat) => (c : Int), rfl, SqL.of e8, by simp, fun m hm hy => ?_⟩
      rw [mx_int hm hy]
      walk_at "vc"
      have em : (1 : Int) + ((mx (0 :: qs.map fun q : Nat × Py k => clP k q.2) : Nat) : Int) = ((clP (k + 1) (.inr (.inr qs)) : Nat) : Int) := by
        show _ = ((1 + mx (qs.map fun q : Nat × Py k => clP k q.2) : Nat) : Int)
        have : mx (0 :: qs.map fun q : Nat × Py k => clP k q.2) = mx (qs.map fun q : Nat × Py k => clP k q.2) := Nat.zero_max _
        rw [this]
        omega
      show Q (.int ((1 : Int) + ((mx (0 :: qs.map fun q : Nat × Py k => clP k q.2) : Nat) : Int))) H8
      rw [em]
      exact q _ ((s0'.trans s1).trans s8)
theorem c_calls_of (T : Tx K mg) : ∀ k, Cal P w K mg base (k + 2) d_calls_of ["player"] [] (sp_calls_of K k)
  | 0 => Cal.of T.d_calls_of rfl rfl (fun _ _ _ _ _ _ us hl => match us, hl with | [_], _ => rfl) fun fd F => ok_calls_of T 0 (n_calls_of T) F
  | k + 1 => Cal.of T.d_calls_of rfl rfl (fun _ _ _ _ _ _ us hl => match us, hl with | [_], _ => rfl) fun fd F => ok_calls_of T (k + 1) (c_calls_of T k) F
end
end Tn
set_option Elab.async false
set_option linter.all false
set_option maxRecDepth 100000
set_option maxHeartbeats 4000000
set_option pp.maxSteps 400
namespace Tn
open PySem PySem.Spec L2
def rCntF : V → List V → Hp → VK → Prop := fun x xs H Q => ∃ (p : Addr) (ns : List Int) (k : Int), x = .ref p ∧ xs = [.int k] ∧ H p = some (.lst (ns.map V.int)) ∧ Q (.int (ns.count k : Nat)) H
theorem mt_lcountF {X : Cx} : MtR X "list.count" rCntF := fun pins s σ H x xs v us Q I rx rxs ⟨p, ns, k, e1, e2, h, q⟩ => mt_lcount pins s σ H x xs v us Q I rx rxs ⟨p, ns, k, e1, e2, SqL.of h, q⟩
theorem count_le1 {l : List Nat} (h : l.Nodup) (c : Nat) : (l.map fun (a : Nat) => (a : Int)).count (c : Int) ≤ 1 := by
  induction l with
  | nil => simp
  | cons a l ih =>
    rw [List.nodup_cons] at h
    rw [List.map_cons, List.count_cons]
    by_cases z : a = c
    · subst z
      have : (l.map fun (a : Nat) => (a : Int)).count (a : Int) = 0 := by
        rw [List.count_eq_zero]
        intro hm
        obtain ⟨b, hb, e⟩ := List.mem_map.mp hm
        have : b = a := by omega
        exact h.1 (this ▸ hb)
      rw [this]
      split <;> omega
    · have : ((a : Int) == (c : Int)) = false := by
        rw [beq_eq_false_iff_ne]
        omega
      rw [this]
      have := ih h.2
      simpa using this
theorem x_chain {r1 r2 : R2} {ta tb tc : TE} {σ : L2.St} {H : Hp} {Q : VK} (q : ta σ H fun x H1 => tb σ H1 fun y H2 => r1 x y H2 fun z H3 => ∃ b, z = .bl b ∧ if b = true then tc σ H3 fun w H4 => r2 y w H4 Q else Q (.bl false) H3) : tChain r1 r2 ta tb tc σ H Q := q
local macro_rules | `(tactic| walk_at "tz") => `(tactic| first
  | ((refine' Tz.same ?s); (case s => with_reducible assumption))
  | ((refine' Tz.but ?b ?h ?n); (case b => with_reducible assumption); (case h => walk_at "look"); (case n => (intro o v z; cases z))))
local macro_rules | `(tactic| walk_at "fz") => `(tactic| first
  | ((refine' Fz.same ?s); (case s => with_reducible assumption))
  | ((refine' Fz.but ?b ?h ?n); (case b => with_reducible assumption); (case h => walk_at "look"); (case n => first | exact nf_lst | exact nf_dK | exact nf_ext | assumption)))
local macro_rules | `(tactic| walk_at "look") => `(tactic| first
  | with_reducible assumption
  | ((with_reducible refine' Same.app ?s ?m); (case s => with_reducible assumption); (case m => walk_at "look"))
  | ((with_reducible refine' RR.fz ?z ?m); (case z => walk_at "fz"); (case m => walk_at "look"))
  | ((with_reducible refine' Rp.tz ?z ?m); (case z => walk_at "tz"); (case m => walk_at "look"))
  | ((with_reducible refine' TU.tz ?z ?m); (case z => walk_at "tz"); (case m => walk_at "look"))
  | ((with_reducible refine' RpL.tz ?z ?m); (case z => walk_at "tz"); (case m => walk_at "look"))
  | ((with_reducible refine' GM.fz ?z ?m); (case z => walk_at "fz"); (case m => walk_at "look"))
  | ((with_reducible refine' But.app' ?b ?n ?m); (case b => with_reducible assumption); (case n => first | assumption | (refine Ne.symm ?_; assumption)); (case m => walk_at "look"))
  | ((with_reducible refine' But.app ?b ?l ?d ?m); (case b => with_reducible assumption); (case m => walk_at "look"); (case l => walk_at "look"); (case d => (intro z; cases z))))
local macro_rules | `(tactic| walk_at "rp") => `(tactic| first
  | (with_reducible assumption)
  | walk_at "look"
  | exact Rp.bl _ | exact Rp.int _ | exact Rp.str _ | exact Rp.non
  | ((refine' Rp.tup ?h ?l); (case h => walk_at "look"); (case l => walk_at "rpl")))
local macro_rules | `(tactic| walk_at "rpl") => `(tactic| first
  | exact RpL.nil
  | ((refine' RpL.cons ?h ?l); (case h => walk_at "rp"); (case l => walk_at "rpl")))
local macro_rules | `(tactic| walk_at "vc") => `(tactic| repeat (first
  | with_reducible refine' x_seq ?_
  | with_reducible refine' x_ifS ?_
  | with_reducible refine' x_asg ?_
  | with_reducible refine' x_drop ?_
  | with_reducible refine' x_ret ?_
  | with_reducible refine' x_name ?_
  | with_reducible refine' x_c ?_
  | ((with_reducible refine' x_var ?h ?_); (case h => rfl))
  | with_reducible refine' x_op ?_
  | with_reducible refine' x_un ?_
  | with_reducible refine' x_tup ?_
  | with_reducible refine' x_lst ?_
  | ((with_reducible refine' x_gtup ?h ?l ?_); (case h => walk_at "look"); (case l => rfl))
  | ((with_reducible refine' x_gtup' ?h ?l ?_); (case h => walk_at "look"); (case l => rfl))
  | with_reducible refine' x_gcons ?_
  | with_reducible refine' x_gnil ?_
  | with_reducible refine' x_nil ?_
  | with_reducible refine' x_cons ?_
  | with_reducible refine' x_call ?_
  | with_reducible refine' x_meth ?_
  | ((with_reducible refine' x_methv ?h ?l ?_); (case h => walk_at "look"); (case l => first | rfl | decide +kernel))
  | with_reducible refine' x_make ?_
  | with_reducible refine' x_cb ?_
  | with_reducible refine' x_test ?_
  | with_reducible refine' x_B ?_
  | with_reducible refine' x_and ?_
  | with_reducible refine' x_or ?_
  | with_reducible refine' x_not ?_
  | with_reducible refine' x_if ?_
  | with_reducible refine' x_andV ?_
  | with_reducible refine' x_orV ?_
  | with_reducible refine' x_notV ?_
  | with_reducible refine' x_next ?_
  | with_reducible refine' x_gfldc ?_
  | with_reducible refine' x_bmF ?_
  | with_reducible refine' x_bmF0 ?_
  | ((with_reducible refine' y_tyL ?h ?_); (case h => walk_at "look"))
  | ((with_reducible refine' y_tyD ?h ?_); (case h => walk_at "look"))
  | ((with_reducible refine' y_lenL ?h ?_); (case h => walk_at "look"))
  | ((with_reducible refine' y_lenR ?h ?_); (case h => walk_at "look"))
  | with_reducible refine' x_forT ?_
  | with_reducible refine' x_forL ?_
  | with_reducible refine' x_lcT ?_
  | with_reducible refine' x_lcL ?_
  | ((with_reducible refine' y_tupleL ?h ?_); (case h => walk_at "look"); intro _ _ _ _ _)
  | ((with_reducible refine' y_tupleR ?h ?_); (case h => walk_at "look"))
  | ((with_reducible refine' y_tupleT ?h ?_); (case h => walk_at "look"))
  | with_reducible refine' x_cont ?_
  | with_reducible refine' x_dget ?_
  | with_reducible refine' x_din ?_
  | with_reducible refine' x_dput ?_
  | ((with_reducible refine' x_dnewN ?_); intro _ _ _ _ _)
  | with_reducible refine' x_nget2 ?_
  | with_reducible refine' x_nput ?_
  | with_reducible refine' x_lcN ?_
  | with_reducible refine' x_lcKF ?_
  | with_reducible refine' x_itemsN ?_
  | ((with_reducible refine' x_dnewK ?_); intro _ _ _ _ _)
  | with_reducible refine' x_forRev ?_
  | with_reducible refine' x_sl ?_
  | with_reducible refine' x_nopart ?_
  | with_reducible refine' x_part ?_
  | with_reducible refine' x_partI ?_
  | with_reducible refine' x_revL ?_
  | with_reducible refine' x_sfldc ?_
  | with_reducible refine' x_bl ?_
  | ((with_reducible refine' x_fldc ?h ?l ?_); (case h => walk_at "look"); (case l => first | rfl | decide +kernel))
  | ((with_reducible refine' x_setc ?h ?l ?_); (case h => walk_at "look"); (case l => exact Nat.le_of_ble_eq_true rfl); intro _ _ _)
  | ((with_reducible refine' y_num ?h ?_); (case h => walk_at "look"))
  | ((with_reducible refine' y_den ?h ?_); (case h => walk_at "look"))
  | with_reducible refine' y_I0 ?_
  | ((with_reducible refine' y_ixS ?h ?e ?a ?_); (case h => walk_at "look"); (case e => rfl); (case a => rfl))
  | ((with_reducible refine' y_ixI ?h ?e ?a ?_); (case h => walk_at "look"); (case e => rfl); (case a => rfl))
  | ((with_reducible refine' y_ixB ?h ?e ?a ?_); (case h => walk_at "look"); (case e => rfl); (case a => rfl))
  | ((with_reducible refine' y_ixR ?h ?e ?a ?_); (case h => walk_at "look"); (case e => rfl); (case a => rfl); intro _ _)
  | ((with_reducible refine' y_ixT ?h ?a ?_); (case h => walk_at "look"); (case a => rfl))
  | ((with_reducible refine' y_eq ?s ?_); (case s => rfl))
  | ((with_reducible refine' y_ne ?s ?_); (case s => rfl))
  | ((with_reducible refine' x_rtup ?l ?_); (case l => exact Nat.le_of_ble_eq_true rfl); intro _ _ _ _ _)
  | ((with_reducible refine' x_rlst ?l ?_); (case l => exact Nat.le_of_ble_eq_true rfl); intro _ _ _ _ _)
  | ((with_reducible refine' ite_t ?h ?_); (case h => first | with_reducible rfl | assumption | exact decide_eq_true (by omega) | decide +kernel | rfl))
  | ((with_reducible refine' ite_f ?h ?_); (case h => first | with_reducible rfl | assumption | exact decide_eq_false (by omega) | decide +kernel | rfl))))
def sp_check_player (K : PySem.W.Frag) (k : Nat) : Sp := fun vs H Q _ => ∃ (g v : V) (p : Py k) (n s r : Nat), vs = [g, v, .int (r : Nat)] ∧ GM K H g n s ∧ Rp H v (plD k p) ∧ okP k p ∧ k ≤ r ∧ ∀ H', Same H H' → Q .non H'
def prevK (K : PySem.W.Frag) : Nat → Sp
  | 0 => spNo
  | k + 1 => sp_check_player K k
section
variable {P : Program} {w : World} {K : PySem.W.Frag} {mg : Str → Option Value} {base : Heap}
theorem sc_check_player : FnScope ["game", "player", "room", "part", "answers", "_", "answer"] ["game", "player", "room"] (defScope s_check_player) := ⟨rfl, rfl, rfl, by decide +kernel, rfl, by decide +kernel, by decide +kernel⟩
theorem cal_check {sp : Sp} {lv : Nat} (T : Tx K mg) (ok : ∀ fd, FnX K d_check_player fd → FnOk P w K mg base CX0 lv (He.fAd K d_check_player.at_) fd ["game", "player", "room"] sp) : Cal P w K mg base lv d_check_player ["game", "player", "room"] [] sp :=
  Cal.ofD 1 T.d_check_player (by intro z; cases z) rfl (fun _ _ _ _ _ _ _ us its h1 h2 => match us, its, h1, h2 with | [_, _, _], [_], _, _ => ⟨_, rfl, rfl⟩) ok
theorem cal_check8 {sp : Sp} {lv : Nat} (T : Tx K mg) (ok : ∀ fd, FnX K d_check_player fd → FnOk P w K mg base CX0 lv (He.fAd K d_check_player.at_) fd ["game", "player", "room"] sp) : Cal P w K mg base lv d_check_player ["game", "player", "room"] [.int 8] sp :=
  Cal.ofD 0 T.d_check_player (by intro z; cases z) rfl (fun _ _ _ _ _ _ _ us its h1 h2 => match us, its, h1, h2 with | [_, _], [_], _, _ => ⟨_, rfl, rfl⟩) ok
theorem n_check_player (T : Tx K mg) : Cal P w K mg base 1 d_check_player ["game", "player", "room"] [] spNo := cal_check T fun fd F => F.ok sc_check_player (fun _ _ _ _ h => h.elim) (fun _ _ _ _ _ _ _ _ _ h => h.elim)
theorem ok_check_player (T : Tx K mg) (k : Nat) (ih : Cal P w K mg base (k + 1) d_check_player ["game", "player", "room"] [] (prevK K k)) {fd : FuncData} (F : FnX K d_check_player fd) : FnOk P w K mg base CX0 (k + 2) (He.fAd K d_check_player.at_) fd ["game", "player", "room"] (sp_check_player K k) := by
  refine F.ok sc_check_player (fun vs H Q E h => ?_) (fun cdv A outer s0 H vs Q E hr h => ?_)
  · obtain ⟨g, v, p, n, s, r, rfl, _⟩ := h
    rfl
  obtain ⟨g, v, p, n, s, r, rfl, hg, hv, hok, hkr, q⟩ := h
  refine ⟨_, PSs.nox (pss_cons (ps_if (pt_cmpR op_eq (pe_ix ix_tupF (pv 1) pe_int (fun _ _ => rfl)) pe_str (nomark _)) (pss_one ps_retN) pss_nil)
      (pss_cons (ps_if (pt_cmpR op_eq (pv 2) pe_int (nomark _)) pss_never pss_nil)
      (pss_cons (ps_if (pt_cmpR op_eq (pe_ix ix_tupF (pv 1) pe_int (fun _ _ => rfl)) pe_str (nomark _)) (pss_cons (ps_if (pt_not (pt_chain op_le op_le pe_int (pe_callB call_lenF (by rfl) T.f_len PySem.boot_len (pa_cons (pe_ix ix_tupF (pv 1) pe_int (fun _ _ => rfl)) pa_nil)) (pe_gi (by rfl) T.i_MOST_TOSS))) pss_never pss_nil)
      (pss_cons (ps_for PassesOwn.never rfl (pi_tup (pe_ix ix_tupF (pv 1) pe_int (fun _ _ => rfl))) (pg_name (i := 3) sc_check_player.nd rfl (Or.inl rfl)) (pss_one (ps_expr (pe_cal ih (hr.mono (by omega)) rfl T.g_check_player (pa_cons (pv 0) (pa_cons (pv 3) (pa_cons (pe_op op_sub (pv 2) pe_int) pa_nil)))))))
      (pss_one ps_retN))) pss_nil)
      (pss_cons (ps_if (PW.pt (pw_or (pt_cmpR op_isN (pe_metc (c_Game_proc T) (pv 0) T.cl_Game T.m_Game_proc (hr.mono (by omega)) (pa_cons (pe_ix ix_tupF (pv 1) pe_int (fun _ _ => rfl)) pa_nil)) pe_non (nomark _)) (pw_or1 (pt_cmpR op_lt (pe_ix ix_tupF (pv 1) pe_int (fun _ _ => rfl)) pe_int (nomark _))))) pss_never pss_nil)
      (pss_cons (ps_set (i := 4) sc_check_player.nd rfl (Or.inr rfl) (pe_lc (own := [("answer", 6), ("part", 3)]) (g := gTup K 2 (gCons (gName 6) (gCons (gName 3) gNil))) (tt := tYes) (by rfl) sc_check_player.nd (pi_tup (pe_ix ix_tupF (pv 1) pe_int (fun _ _ => rfl))) (blkOk_by (own := [("answer", 6), ("part", 3)]) (N := ["game", "player", "room", "part", "answers", "_", "answer"]) (sc := defScope s_check_player) (by decide +kernel)) (fun _ _ _ _ _ => (pg_tup rfl (pgs_cons (pg_name (i := 6) sc_check_player.nd rfl (Or.inl rfl)) (pgs_cons (pg_name (i := 3) sc_check_player.nd rfl (Or.inl rfl)) pgs_nil)))) (fun _ _ _ _ _ => pts_nil) (fun _ _ _ _ _ => (pv 6))))
      (pss_cons (ps_if (pt_val (pe_callB (cr_any rfl) (by rfl) T.f_any (by decide +kernel) (pa_cons (pe_lc (own := [("answer", 6)]) (g := gName 6) (tt := tYes) (by rfl) sc_check_player.nd (pi_list (pv 4)) (blkOk_by (own := [("answer", 6)]) (N := ["game", "player", "room", "part", "answers", "_", "answer"]) (sc := defScope s_check_player) (by decide +kernel)) (fun _ _ _ _ _ => (pg_name (i := 6) sc_check_player.nd rfl (Or.inl rfl))) (fun _ _ _ _ _ => pts_nil) (fun _ _ _ _ _ => (pe_cmpR op_gt (pe_bmF PySem.F.plainAttrs_list PySem.F.slot_list_count PySem.F.type_list_count mt_lcountF (pv 4) (pa_cons (pv 6) pa_nil)) pe_int (nomark _)))) pa_nil))) pss_never pss_nil)
      (pss_one (ps_for PassesOwn.never rfl (pi_tup (pe_ix ix_tupF (pv 1) pe_int (fun _ _ => rfl))) (pg_tup rfl (pgs_cons (pg_name (i := 5) sc_check_player.nd rfl (Or.inl rfl)) (pgs_cons (pg_name (i := 3) sc_check_player.nd rfl (Or.inl rfl)) pgs_nil))) (pss_one (ps_expr (pe_cal ih (hr.mono (by omega)) rfl T.g_check_player (pa_cons (pv 0) (pa_cons (pv 3) (pa_cons (pe_op op_sub (pv 2) pe_int) pa_nil)))))))))))))), ?_⟩
  cases k with
  | zero =>
    have hv : Rp H v (.tuple [.str "say", .bool p]) := hv
    walk_at "vc"
    refine x_retN ?_
    exact q _ fun _ _ e => e
  | succ k =>
    rcases p with b | ps | qs
    · have hv : Rp H v (.tuple [.str "say", .bool b]) := hv
      walk_at "vc"
      refine x_retN ?_
      exact q _ fun _ _ e => e
    · have hv : Rp H v (.tuple [.str "toss", .tuple (ps.map (plD k))]) := hv
      obtain ⟨h1, h2, h3⟩ := hok
      have l1 : 0 < ps.length := List.length_pos_iff.mpr h1
      walk_at "vc"
      refine ite_f (decide_eq_false fun z => by injection z with z; omega) ?_
      walk_at "vc"
      refine x_chain ?_
      walk_at "vc"
      refine ite_t (decide_eq_true (by rw [List.length_map]; omega)) ?_
      walk_at "vc"
      refine ite_f (by rw [decide_eq_true (by rw [List.length_map]; omega)]; rfl) ?_
      walk_at "vc"
      rename_i u hu
      refine y_forR hu (fun i σ' H' => Same H H' ∧ ∃ z3, σ' = [some g, some v, some (.int (r : Nat)), z3, none, none, none]) ⟨fun _ _ e => e, none, rfl⟩ (fun i σ' H' z => Fz.same z.1) ?_ ?_
      · rintro i d x σ' H' hi hd ⟨sH, z3, rfl⟩
        rw [List.getElem?_map] at hi
        obtain ⟨p', hp', rfl⟩ := Option.map_eq_some_iff.mp hi
        walk_at "vc"
        have er : (r : Int) - 1 = ((r - 1 : Nat) : Int) := by omega
        rw [er]
        refine ⟨g, x, p', n, s, r - 1, rfl, hg.same sH, hd, h3 p' (List.mem_of_getElem? hp'), by omega, fun H2 s2 => ?_⟩
        exact ⟨sH.trans s2, _, rfl⟩
      · rintro σ' H' ⟨sH, z3, rfl⟩
        exact q _ sH
    · have hv : Rp H v (.tuple [.str "ask", .str "p", .int 0, .tuple (qs.map fun q => .tuple [.int (q.1 : Nat), plD k q.2])]) := hv
      obtain ⟨h1, h2, h3⟩ := hok
      walk_at "vc"
      refine ite_f (decide_eq_false fun z => by injection z with z; omega) ?_
      obtain ⟨ga, gdx, gv1, gv2, gv3, gv4, rfl, gh, _⟩ := id hg
      walk_at "vc"
      refine ⟨_, n, s, rfl, hg, fun pv hpv => ?_⟩
      obtain ⟨pa, pxs, rfl, hp1, hp2⟩ := hpv.t_
      walk_at "vc"
      refine ⟨rfl, ?_⟩
      walk_at "vc"
      rename_i u hu
      obtain ⟨a1, x1, rfl, t1, r1⟩ := hu.t_
      have hx1 : x1.length = qs.length := by rw [r1.len, List.length_map]
      have pair : ∀ {i : Nat} {d : PyData} {x : V} {H' : Hp}, (qs.map fun q : Nat × Py k => (.tuple [.int (q.1 : Nat), plD k q.2] : PyData))[i]? = some d → Rp H' x d → ∃ q' at2 v2, qs[i]? = some q' ∧ x = .ref at2 ∧ TU H' at2 [.int (q'.1 : Nat), v2] ∧ Rp H' v2 (plD k q'.2) := fun {i d x H'} hi hr => by
        rw [List.getElem?_map] at hi
        obtain ⟨q', hq', rfl⟩ := Option.map_eq_some_iff.mp hi
        obtain ⟨at2, xs2, rfl, t2, r2⟩ := hr.t_
        cases r2 with
        | @cons v1 _ _ _ g1 r2 =>
        cases r2 with
        | @cons v2 _ _ _ g2 r2 =>
        cases r2
        cases g1.i_
        exact ⟨q', at2, v2, hq', rfl, t2, g2⟩
      refine y_lcT (fun D i y H => ∃ c, (qs.map fun q : Nat × Py k => q.1)[i]? = some c ∧ y = .int (c : Nat)) (fun D ys i v H H' hD b r => r) t1 (by omega) (fun D i x' H' acc hi hD s1 hacc Q' q' => ?_) (mg_tup (mg_cons mg_name (mg_cons mg_name mg_nil))) fun D H1 acc hD s1 hacc hla hr1 => ?_
      · obtain ⟨d, hd, hr'⟩ := r1.get' hi
        obtain ⟨q2, at2, v2, hq2, rfl, t2, g2⟩ := pair hd (hr'.same s1)
        walk_at "vc"
        refine ⟨rfl, ?_⟩
        walk_at "vc"
        exact q' _ _ (fun _ _ e => e) ⟨q2.1, by rw [List.getElem?_map, hq2]; rfl, rfl⟩
      have ea := ints_of (by rw [hla, hx1, List.length_map]) hr1
      subst ea
      walk_at "vc"
      refine y_lcL (fun D i y H => y = .bl false) (fun D ys i v H H' hD b r => r) hacc (by rw [List.length_map, List.length_map, List.length_map]; omega) (fun D2 i x' H' acc2 hi hD2 s2 hacc2 Q' q' => ?_) mg_name fun D2 H2 acc2 hD2 s2 hacc2 hla2 hr2 => ?_
      · rw [List.map_map, List.getElem?_map] at hi
        obtain ⟨c, hc, hx'⟩ := Option.map_eq_some_iff.mp hi
        have hx' : x' = .int (c : Nat) := hx'.symm
        subst hx'
        have hD4 := s2 _ _ hacc
        walk_at "vc"
        refine ⟨rfl, ?_⟩
        walk_at "vc"
        refine ⟨D, _, _, rfl, rfl, hD4, ?_⟩
        walk_at "vc"
        refine q' _ _ (fun _ _ e => e) (congrArg V.bl (decide_eq_false ?_))
        have := count_le1 h2 c
        omega
      walk_at "vc"
      refine ⟨D2, List.replicate (qs.map (·.1)).length false, rfl, ?_, ?_⟩
      · have ea2 : acc2 = (List.replicate (qs.map (·.1)).length false).map V.bl := by
          refine List.ext_getElem? fun i => ?_
          rw [List.length_map, List.length_map] at hla2
          rw [List.getElem?_map, List.getElem?_replicate]
          cases e : acc2[i]? with
          | none =>
            have := List.getElem?_eq_none_iff.mp e
            rw [if_neg (by omega)]
            rfl
          | some y =>
            have := (List.getElem?_eq_some_iff.mp e).1
            rw [if_pos (by omega), hr2 i y e]
            rfl
        exact SqL.of (ea2 ▸ hacc2)
      have e0 : (List.replicate (qs.map (·.1)).length false).any id = false := by simp
      rw [e0]
      have s02 := s1.trans s2
      walk_at "vc"
      have hv2 := hv.same s02
      walk_at "vc"
      rename_i u2 hu2
      refine y_forR hu2 (fun i σ' H' => Same H H' ∧ Same H2 H' ∧ ∃ z3 z5, σ' = [some (.ref ga), some v, some (.int (r : Nat)), z3, some (.ref D), z5, none]) ⟨s02, fun _ _ e => e, none, none, rfl⟩ (fun i σ' H' z => Fz.same z.2.1) ?_ ?_
      · rintro i d x σ' H' hi hd ⟨sH, sH2, z3, z5, rfl⟩
        obtain ⟨q2, at2, v2, hq2, rfl, t2, g2⟩ := pair hi hd
        walk_at "vc"
        have er : (r : Int) - 1 = ((r - 1 : Nat) : Int) := by omega
        rw [er]
        refine ⟨.ref ga, v2, q2.2, n, s, r - 1, rfl, hg.same sH, g2, h3 q2 (List.mem_of_getElem? hq2), by omega, fun H3 s3 => ?_⟩
        exact ⟨sH.trans s3, sH2.trans s3, _, _, rfl⟩
      · rintro σ' H' ⟨sH, sH2, z3, z5, rfl⟩
        exact q _ sH
theorem c_check_player (T : Tx K mg) : ∀ k, Cal P w K mg base (k + 2) d_check_player ["game", "player", "room"] [] (sp_check_player K k)
  | 0 => cal_check T fun fd F => ok_check_player T 0 (n_check_player T) F
  | k + 1 => cal_check T fun fd F => ok_check_player T (k + 1) (c_check_player T k) F
theorem c_check_player8 (T : Tx K mg) : ∀ k, Cal P w K mg base (k + 2) d_check_player ["game", "player", "room"] [.int 8] (sp_check_player K k)
  | 0 => cal_check8 T fun fd F => ok_check_player T 0 (n_check_player T) F
  | k + 1 => cal_check8 T fun fd F => ok_check_player T (k + 1) (c_check_player T k) F
end
end Tn
set_option Elab.async false
set_option linter.all false
set_option maxRecDepth 100000
set_option maxHeartbeats 4000000
set_option pp.maxSteps 400
namespace Tn
open PySem PySem.Spec L2
/-! ### chances -/
def bR (b : Bool) : Rat := if b = true then 1 else 0
def chP (n s : Nat) : (k : Nat) → Ste → Py k → Rat
  | 0, _, b => bR b
  | _ + 1, _, .inl b => bR b
  | k + 1, t, .inr (.inl ps) => sumR (ps.map (chP n s k t)) * mkRat 1 ps.length
  | k + 1, t, .inr (.inr qs) => (List.range n).foldl (fun r a => match qs.find? fun q => decide (q.1 = eAns n s t.1 t.2 a) with
      | some q => r + mkRat 1 n * chP n s k (eKs t.1 a, eB t.1 t.2 a) q.2
      | none => r) 0
def DD (n k : Nat) : Nat := (6 * n) ^ k
theorem DD_succ (n k : Nat) : DD n (k + 1) = DD n k * (6 * n) := Nat.pow_succ ..
theorem DD_ne {n k : Nat} (h : 0 < n) : DD n k ≠ 0 := Nat.ne_of_gt (Nat.pow_pos (by omega))
def InR (D B : Nat) (r : Rat) : Prop := ∃ m : Nat, m ≤ B ∧ r = mkRat (m : Int) D
theorem sum_form {D B : Nat} (hD : D ≠ 0) : ∀ {rs : List Rat}, (∀ r ∈ rs, InR D B r) → InR D (rs.length * B) (sumR rs) := by
  have key : ∀ (rs : List Rat) (a : Nat), (∀ r ∈ rs, InR D B r) → ∃ m : Nat, m ≤ a + rs.length * B ∧ rs.foldl (· + ·) (mkRat (a : Int) D) = mkRat (m : Int) D := by
    intro rs
    induction rs with
    | nil => exact fun a _ => ⟨a, by simp, rfl⟩
    | cons r rs ih =>
      intro a h
      obtain ⟨m, h1, h2⟩ := h r (List.mem_cons_self ..)
      obtain ⟨m', h3, h4⟩ := ih (a + m) fun r' hr => h r' (List.mem_cons_of_mem _ hr)
      refine ⟨m', ?_, ?_⟩
      · rw [List.length_cons, Nat.succ_mul]
        omega
      · rw [List.foldl_cons, h2, mk_add _ _ hD]
        have : (a : Int) + (m : Int) = ((a + m : Nat) : Int) := by omega
        rw [this]
        exact h4
  intro rs h
  obtain ⟨m, h1, h2⟩ := key rs 0 h
  refine ⟨m, by omega, ?_⟩
  unfold sumR
  rw [← h2]
  have : mkRat ((0 : Nat) : Int) D = 0 := mk_zero
  rw [this]
theorem mul_form {D B L c : Nat} (hL : L ≠ 0) (hc : c ≠ 0) {r : Rat} (h : InR D B r) : InR (D * (L * c)) (B * c) (r * mkRat 1 L) := by
  obtain ⟨m, h1, rfl⟩ := h
  refine ⟨m * c, Nat.mul_le_mul_right _ h1, ?_⟩
  rw [Rat.mkRat_mul_mkRat, Int.mul_one, ← Nat.mul_assoc]
  have : ((m * c : Nat) : Int) = (m : Int) * (c : Int) := Int.natCast_mul _ _
  rw [this]
  exact (Rat.mkRat_mul_right hc).symm
theorem mul_form' {D B L c : Nat} (hL : L ≠ 0) (hc : c ≠ 0) {r : Rat} (h : InR D B r) : InR (D * (L * c)) (B * c) (mkRat 1 L * r) := by
  rw [Rat.mul_comm]
  exact mul_form hL hc h
theorem InR.le {D B B' : Nat} {r : Rat} (h : InR D B r) (hb : B ≤ B') : InR D B' r := let ⟨m, a, b⟩ := h; ⟨m, Nat.le_trans a hb, b⟩
theorem InR.sm {D B : Nat} {r : Rat} (h : InR D B r) (h0 : D ≠ 0) (hD : D < 2 ^ 60) (hB : B < 2 ^ 60) : Sm r := by
  obtain ⟨m, h1, rfl⟩ := h
  exact sm_mk h0 (by rw [Int.natAbs_natCast]; omega) hD
theorem InR.add {D B B' : Nat} {r r' : Rat} (h0 : D ≠ 0) (h : InR D B r) (h' : InR D B' r') : InR D (B + B') (r + r') := by
  obtain ⟨m, h1, rfl⟩ := h
  obtain ⟨m', h1', rfl⟩ := h'
  exact ⟨m + m', by omega, by rw [mk_add _ _ h0, Int.natCast_add]⟩
theorem in_zero {D B : Nat} : InR D B 0 := ⟨0, Nat.zero_le _, mk_zero.symm⟩
theorem in_one {D : Nat} (h : D ≠ 0) : InR D D 1 := ⟨D, Nat.le_refl _, by
  have := Rat.mkRat_mul_right (n := 1) (d := 1) h
  rw [Int.one_mul, Nat.one_mul] at this
  rw [this]
  decide +kernel⟩
/-- the fold of an asking player, as far as it has come -/
def askF (n s k : Nat) (t : Ste) (qs : List (Nat × Py k)) (r : Rat) (a : Nat) : Rat := match qs.find? fun q => decide (q.1 = eAns n s t.1 t.2 a) with
  | some q => r + mkRat 1 n * chP n s k (eKs t.1 a, eB t.1 t.2 a) q.2
  | none => r
theorem ch_form {n s : Nat} (h0 : 0 < n) : ∀ (k : Nat) (t : Ste) (p : Py k), okP k p → InR (DD n k) (DD n k) (chP n s k t p)
  | 0, t, b, _ => by
    show InR _ _ (bR b)
    unfold bR
    split
    · exact in_one (DD_ne h0)
    · exact in_zero
  | k + 1, t, .inl b, _ => by
    show InR _ _ (bR b)
    unfold bR
    split
    · exact in_one (DD_ne h0)
    · exact in_zero
  | k + 1, t, .inr (.inl ps), ⟨h1, h2, h3⟩ => by
    have ih := ch_form (n := n) (s := s) h0 k
    show InR _ _ (sumR (ps.map (chP n s k t)) * mkRat 1 ps.length)
    have l0 : ps.length ≠ 0 := fun z => h1 (List.length_eq_zero_iff.mp z)
    have f := sum_form (D := DD n k) (B := DD n k) (DD_ne h0) (rs := ps.map (chP n s k t)) fun r hr => by
      obtain ⟨p, hp, rfl⟩ := List.mem_map.mp hr
      exact ih t p (h3 p hp)
    rw [List.length_map] at f
    have hc : ∃ c, c ≠ 0 ∧ ps.length * c = 6 * n := by
      have : ps.length = 1 ∨ ps.length = 2 ∨ ps.length = 3 := by omega
      rcases this with e | e | e
      · exact ⟨6 * n, by omega, by rw [e]; omega⟩
      · exact ⟨3 * n, by omega, by rw [e]; omega⟩
      · exact ⟨2 * n, by omega, by rw [e]; omega⟩
    obtain ⟨c, c0, ce⟩ := hc
    have g := mul_form l0 c0 f
    rw [ce, ← DD_succ] at g
    refine g.le ?_
    rw [DD_succ, ← ce]
    have : ps.length * DD n k * c = DD n k * (ps.length * c) := by rw [Nat.mul_comm ps.length, Nat.mul_assoc]
    omega
  | k + 1, t, .inr (.inr qs), ⟨h1, h2, h3⟩ => by
    have ih := ch_form (n := n) (s := s) h0 k
    have key : ∀ j, j ≤ n → InR (DD n (k + 1)) (j * (DD n k * 6)) ((List.range j).foldl (askF n s k t qs) 0) := by
      intro j
      induction j with
      | zero => exact fun _ => in_zero
      | succ j ihj =>
        intro hj
        rw [List.range_succ, List.foldl_append]
        have a := ihj (by omega)
        show InR _ _ (askF n s k t qs _ j)
        unfold askF
        split
        · rename_i q hq
          have m := mul_form' (L := n) (c := 6) (by omega) (by decide) (ih (eKs t.1 j, eB t.1 t.2 j) q.2 (h3 q (List.mem_of_find?_eq_some hq)))
          have e : DD n k * (n * 6) = DD n (k + 1) := by rw [DD_succ, Nat.mul_comm n 6]
          rw [e] at m
          have := InR.add (DD_ne h0) a m
          rw [Nat.succ_mul]
          exact this
        · refine a.le (Nat.mul_le_mul_right _ (by omega))
    have := key n (Nat.le_refl _)
    have e : n * (DD n k * 6) = DD n (k + 1) := by rw [DD_succ, Nat.mul_comm n, Nat.mul_assoc]
    rw [e] at this
    exact this
theorem askF_form {n s k : Nat} {t : Ste} {qs : List (Nat × Py k)} (h0 : 0 < n) (h3 : ∀ q ∈ qs, okP k q.2) : ∀ j, j ≤ n → InR (DD n (k + 1)) (DD n (k + 1)) ((List.range j).foldl (askF n s k t qs) 0) := by
  have key : ∀ j, j ≤ n → InR (DD n (k + 1)) (j * (DD n k * 6)) ((List.range j).foldl (askF n s k t qs) 0) := by
    intro j
    induction j with
    | zero => exact fun _ => in_zero
    | succ j ihj =>
      intro hj
      rw [List.range_succ, List.foldl_append]
      have a := ihj (by omega)
      show InR _ _ (askF n s k t qs _ j)
      unfold askF
      split
      · rename_i q hq
        have m := mul_form' (L := n) (c := 6) (by omega) (by decide) (ch_form (n := n) (s := s) h0 k (eKs t.1 j, eB t.1 t.2 j) q.2 (h3 q (List.mem_of_find?_eq_some hq)))
        have e : DD n k * (n * 6) = DD n (k + 1) := by rw [DD_succ, Nat.mul_comm n 6]
        rw [e] at m
        have := InR.add (DD_ne h0) a m
        rw [Nat.succ_mul]
        exact this
      · refine a.le (Nat.mul_le_mul_right _ (by omega))
  intro j hj
  refine (key j hj).le ?_
  have e : n * (DD n k * 6) = DD n (k + 1) := by rw [DD_succ, Nat.mul_comm n, Nat.mul_assoc]
  rw [← e]
  exact Nat.mul_le_mul_right _ hj
end Tn
set_option Elab.async false
set_option linter.all false
set_option maxRecDepth 100000
set_option maxHeartbeats 8000000
set_option pp.maxSteps 400
namespace Tn
open PySem PySem.Spec L2
local macro_rules | `(tactic| walk_at "tz") => `(tactic| first
  | ((refine' Tz.same ?s); (case s => with_reducible assumption))
  | ((refine' Tz.but ?b ?h ?n); (case b => with_reducible assumption); (case h => walk_at "look"); (case n => (intro o v z; cases z))))
local macro_rules | `(tactic| walk_at "fz") => `(tactic| first
  | ((refine' Fz.same ?s); (case s => with_reducible assumption))
  | ((refine' Fz.but ?b ?h ?n); (case b => with_reducible assumption); (case h => walk_at "look"); (case n => first | exact nf_lst | exact nf_dK | exact nf_ext | assumption)))
local macro_rules | `(tactic| walk_at "look") => `(tactic| first
  | with_reducible assumption
  | ((with_reducible refine' Same.app ?s ?m); (case s => with_reducible assumption); (case m => walk_at "look"))
  | ((with_reducible refine' RR.fz ?z ?m); (case z => walk_at "fz"); (case m => walk_at "look"))
  | ((with_reducible refine' Rp.tz ?z ?m); (case z => walk_at "tz"); (case m => walk_at "look"))
  | ((with_reducible refine' TU.tz ?z ?m); (case z => walk_at "tz"); (case m => walk_at "look"))
  | ((with_reducible refine' RpL.tz ?z ?m); (case z => walk_at "tz"); (case m => walk_at "look"))
  | ((with_reducible refine' GM.fz ?z ?m); (case z => walk_at "fz"); (case m => walk_at "look"))
  | ((with_reducible refine' But.app' ?b ?n ?m); (case b => with_reducible assumption); (case n => first | assumption | (refine Ne.symm ?_; assumption)); (case m => walk_at "look"))
  | ((with_reducible refine' But.app ?b ?l ?d ?m); (case b => with_reducible assumption); (case m => walk_at "look"); (case l => walk_at "look"); (case d => (intro z; cases z))))
local macro_rules | `(tactic| walk_at "rp") => `(tactic| first
  | (with_reducible assumption)
  | walk_at "look"
  | exact Rp.bl _ | exact Rp.int _ | exact Rp.str _ | exact Rp.non
  | ((refine' Rp.tup ?h ?l); (case h => walk_at "look"); (case l => walk_at "rpl")))
local macro_rules | `(tactic| walk_at "rpl") => `(tactic| first
  | exact RpL.nil
  | ((refine' RpL.cons ?h ?l); (case h => walk_at "rp"); (case l => walk_at "rpl")))
local macro_rules | `(tactic| walk_at "vc") => `(tactic| repeat (first
  | with_reducible refine' x_seq ?_
  | with_reducible refine' x_ifS ?_
  | with_reducible refine' x_asg ?_
  | with_reducible refine' x_drop ?_
  | with_reducible refine' x_ret ?_
  | with_reducible refine' x_name ?_
  | with_reducible refine' x_c ?_
  | ((with_reducible refine' x_var ?h ?_); (case h => rfl))
  | with_reducible refine' x_op ?_
  | with_reducible refine' x_un ?_
  | with_reducible refine' x_tup ?_
  | with_reducible refine' x_lst ?_
  | ((with_reducible refine' x_gtup ?h ?l ?_); (case h => walk_at "look"); (case l => rfl))
  | ((with_reducible refine' x_gtup' ?h ?l ?_); (case h => walk_at "look"); (case l => rfl))
  | with_reducible refine' x_gcons ?_
  | with_reducible refine' x_gnil ?_
  | with_reducible refine' x_nil ?_
  | with_reducible refine' x_cons ?_
  | with_reducible refine' x_call ?_
  | with_reducible refine' x_meth ?_
  | ((with_reducible refine' x_methv ?h ?l ?_); (case h => walk_at "look"); (case l => first | rfl | decide +kernel))
  | with_reducible refine' x_make ?_
  | with_reducible refine' x_cb ?_
  | with_reducible refine' x_test ?_
  | with_reducible refine' x_B ?_
  | with_reducible refine' x_and ?_
  | with_reducible refine' x_or ?_
  | with_reducible refine' x_not ?_
  | with_reducible refine' x_if ?_
  | with_reducible refine' x_andV ?_
  | with_reducible refine' x_orV ?_
  | with_reducible refine' x_notV ?_
  | with_reducible refine' x_next ?_
  | with_reducible refine' x_gfldc ?_
  | with_reducible refine' x_bmF ?_
  | with_reducible refine' x_bmF0 ?_
  | ((with_reducible refine' y_tyL ?h ?_); (case h => walk_at "look"))
  | ((with_reducible refine' y_tyD ?h ?_); (case h => walk_at "look"))
  | ((with_reducible refine' y_lenL ?h ?_); (case h => walk_at "look"))
  | ((with_reducible refine' y_lenR ?h ?_); (case h => walk_at "look"))
  | with_reducible refine' x_forT ?_
  | with_reducible refine' x_forL ?_
  | with_reducible refine' x_lcT ?_
  | with_reducible refine' x_lcL ?_
  | ((with_reducible refine' y_tupleL ?h ?_); (case h => walk_at "look"); intro _ _ _ _ _)
  | ((with_reducible refine' y_tupleR ?h ?_); (case h => walk_at "look"))
  | ((with_reducible refine' y_tupleT ?h ?_); (case h => walk_at "look"))
  | with_reducible refine' x_cont ?_
  | with_reducible refine' x_dget ?_
  | with_reducible refine' x_din ?_
  | with_reducible refine' x_dput ?_
  | ((with_reducible refine' x_dnewN ?_); intro _ _ _ _ _)
  | with_reducible refine' x_nget2 ?_
  | with_reducible refine' x_nput ?_
  | with_reducible refine' x_lcN ?_
  | with_reducible refine' x_lcKF ?_
  | with_reducible refine' x_itemsN ?_
  | ((with_reducible refine' x_dnewK ?_); intro _ _ _ _ _)
  | with_reducible refine' x_forRev ?_
  | with_reducible refine' x_sl ?_
  | with_reducible refine' x_nopart ?_
  | with_reducible refine' x_part ?_
  | with_reducible refine' x_partI ?_
  | with_reducible refine' x_revL ?_
  | with_reducible refine' x_sfldc ?_
  | with_reducible refine' x_bl ?_
  | ((with_reducible refine' x_fldc ?h ?l ?_); (case h => walk_at "look"); (case l => first | rfl | decide +kernel))
  | ((with_reducible refine' x_setc ?h ?l ?_); (case h => walk_at "look"); (case l => exact Nat.le_of_ble_eq_true rfl); intro _ _ _)
  | ((with_reducible refine' y_num ?h ?_); (case h => walk_at "look"))
  | ((with_reducible refine' y_den ?h ?_); (case h => walk_at "look"))
  | with_reducible refine' y_I0 ?_
  | ((with_reducible refine' y_ixS ?h ?e ?a ?_); (case h => walk_at "look"); (case e => rfl); (case a => rfl))
  | ((with_reducible refine' y_ixI ?h ?e ?a ?_); (case h => walk_at "look"); (case e => rfl); (case a => rfl))
  | ((with_reducible refine' y_ixB ?h ?e ?a ?_); (case h => walk_at "look"); (case e => rfl); (case a => rfl))
  | ((with_reducible refine' y_ixR ?h ?e ?a ?_); (case h => walk_at "look"); (case e => rfl); (case a => rfl); intro _ _)
  | ((with_reducible refine' y_ixT ?h ?a ?_); (case h => walk_at "look"); (case a => rfl))
  | ((with_reducible refine' y_eq ?s ?_); (case s => rfl))
  | ((with_reducible refine' y_ne ?s ?_); (case s => rfl))
  | ((with_reducible refine' x_rtup ?l ?_); (case l => exact Nat.le_of_ble_eq_true rfl); intro _ _ _ _ _)
  | ((with_reducible refine' x_rlst ?l ?_); (case l => exact Nat.le_of_ble_eq_true rfl); intro _ _ _ _ _)
  | ((with_reducible refine' ite_t ?h ?_); (case h => first | with_reducible rfl | assumption | exact decide_eq_true (by omega) | decide +kernel | rfl))
  | ((with_reducible refine' ite_f ?h ?_); (case h => first | with_reducible rfl | assumption | exact decide_eq_false (by omega) | decide +kernel | rfl))))
/-- states that the runner takes -/
def okS (n j : Nat) (t : Ste) : Prop := t.1.Pairwise (· ≤ ·) ∧ t.1.Nodup ∧ t.1.length + j < 60 ∧ ∀ k ∈ t.1, k < n
theorem okS.next {n j : Nat} {t : Ste} (h : okS n (j + 1) t) {a : Nat} (ha : a < n) : okS n j (eKs t.1 a, eB t.1 t.2 a) := by
  obtain ⟨h1, h2, h3, h4⟩ := h
  refine ⟨srt_sorted _, ((srt_perm _).nodup_iff).mpr (addK_nodup h2), ?_, fun k hk => ?_⟩
  · show (srt (addK t.1 a)).length + j < 60
    rw [(srt_perm _).length_eq]
    unfold addK
    split
    · omega
    · rw [List.length_append]
      simp
      omega
  · have hk : k ∈ addK t.1 a := (srt_perm _).mem_iff.mp hk
    unfold addK at hk
    split at hk
    · exact h4 k hk
    · rcases List.mem_append.mp hk with hk | hk
      · exact h4 k hk
      · simp at hk
        omega
def sp_chance_in (K : PySem.W.Frag) (k : Nat) : Sp := fun vs H Q _ => ∃ (x st v : V) (p : Py k) (n s : Nat) (t : Ste), vs = [x, st, v] ∧ RunAt K H x n s ∧ Rp H st (stD t.1 t.2) ∧ okS n k t ∧ Rp H v (plD k p) ∧ okP k p ∧ 0 < n ∧ n < 60 ∧ s < 1000 ∧ DD n k < 2 ^ 40 ∧ ∀ r H', Same H H' → RR K H' r (chP n s k t p) → Q r H'
def prevX (K : PySem.W.Frag) : Nat → Sp
  | 0 => spNo
  | k + 1 => sp_chance_in K k
theorem DD_mono {n k : Nat} (h0 : 0 < n) : DD n k ≤ DD n (k + 1) := by
  rw [DD_succ]
  exact Nat.le_mul_of_pos_right _ (by omega)
/-- the parts of an asking player, as a dict's rows -/
theorem ask_rows {H : Hp} {k : Nat} : ∀ {qs : List (Nat × Py k)} {xs : List V}, RpL H xs (qs.map fun q => .tuple [.int (q.1 : Nat), plD k q.2]) →
    ∃ (ps : List Addr) (kvs : List (Key × V)), xs = ps.map V.ref ∧ Paired (fun p kv => TU H p [kV kv.1, kv.2]) ps kvs ∧ Paired (fun (kv : Key × V) (q : Nat × Py k) => kv.1 = Sum.inl (q.1 : Int) ∧ Rp H kv.2 (plD k q.2)) kvs qs
  | [], xs, h => by
    cases h
    exact ⟨[], [], rfl, .nil, .nil⟩
  | q :: qs, xs, h => by
    rw [List.map_cons] at h
    cases h with
    | cons h1 h2 =>
      obtain ⟨a, ys, rfl, t1, r1⟩ := h1.t_
      obtain ⟨ps, kvs, rfl, e1, e2⟩ := ask_rows h2
      cases r1 with
      | @cons v1 _ _ _ g1 r1 =>
      cases r1 with
      | @cons v2 _ _ _ g2 r1 =>
      cases r1
      cases g1.i_
      exact ⟨a :: ps, (Sum.inl (q.1 : Int), v2) :: kvs, rfl, .cons t1 e1, .cons ⟨rfl, g2⟩ e2⟩
theorem ask_keys {H : Hp} {k : Nat} {kvs : List (Key × V)} {qs : List (Nat × Py k)} (pr : Paired (fun (kv : Key × V) (q : Nat × Py k) => kv.1 = Sum.inl (q.1 : Int) ∧ Rp H kv.2 (plD k q.2)) kvs qs) : kvs.map (·.1) = (qs.map (·.1)).map fun (a : Nat) => (Sum.inl (a : Int) : Key) := by
  induction pr with
  | nil => rfl
  | cons h t ih => rw [List.map_cons, List.map_cons, List.map_cons, ih, h.1]
theorem ask_get {H : Hp} {k : Nat} {kvs : List (Key × V)} {qs : List (Nat × Py k)} (pr : Paired (fun (kv : Key × V) (q : Nat × Py k) => kv.1 = Sum.inl (q.1 : Int) ∧ Rp H kv.2 (plD k q.2)) kvs qs) (a : Nat) :
    ((qs.find? fun q => decide (q.1 = a)) = none ∧ valV kvs (Sum.inl (a : Int)) = none) ∨ ∃ q v, (qs.find? fun q => decide (q.1 = a)) = some q ∧ valV kvs (Sum.inl (a : Int)) = some v ∧ Rp H v (plD k q.2) := by
  induction pr with
  | nil => exact .inl ⟨rfl, rfl⟩
  | @cons kv q es rs hq _ ih =>
    have hi : kv.1 = Sum.inl (a : Int) ↔ q.1 = a := by
      rw [hq.1]
      exact keyN
    by_cases z : q.1 = a
    · exact .inr ⟨q, kv.2, by simp [List.find?_cons, z], valV_pos (hi.mpr z), hq.2⟩
    · rw [valV_neg (fun w => z (hi.mp w))]
      simpa [List.find?_cons, z] using ih
section
variable {P : Program} {w : World} {K : PySem.W.Frag} {mg : Str → Option Value} {base : Heap}
theorem sc_chance_in : FnScope ["runner", "state", "player", "parts", "later", "result", "after", "answer", "weight", "part"] ["runner", "state", "player"] (defScope s_chance_in) := ⟨rfl, rfl, rfl, by decide +kernel, rfl, by decide +kernel, by decide +kernel⟩
theorem sc_chance : FnScope ["game", "player"] ["game", "player"] (defScope s_chance) := ⟨rfl, rfl, rfl, by decide +kernel, rfl, by decide +kernel, by decide +kernel⟩
theorem n_chance_in (T : Tx K mg) : Cal P w K mg base 1 d_chance_in ["runner", "state", "player"] [] spNo := Cal.of T.d_chance_in rfl rfl (fun _ _ _ _ _ _ us hl => match us, hl with | [_, _, _], _ => rfl) fun fd F => F.ok sc_chance_in (fun _ _ _ _ h => h.elim) (fun _ _ _ _ _ _ _ _ _ h => h.elim)
theorem ok_chance_in (T : Tx K mg) (k : Nat) (ih : Cal P w K mg base (k + 7) d_chance_in ["runner", "state", "player"] [] (prevX K k)) {fd : FuncData} (F : FnX K d_chance_in fd) : FnOk P w K mg base CX0 (k + 8) (He.fAd K d_chance_in.at_) fd ["runner", "state", "player"] (sp_chance_in K k) := by
  refine F.ok sc_chance_in (fun vs H Q E h => ?_) (fun cdv A outer s0 H vs Q E hr h => ?_)
  · obtain ⟨x, st, v, p, n, s, t, rfl, _⟩ := h
    rfl
  obtain ⟨x, st, v, p, n, s, t, rfl, hx, hst, hS, hv, hok, n0, hn, hs, hDD, q⟩ := h
  have hu := hu1 hr
  refine ⟨_, PSs.nox (pss_cons (ps_if (pt_cmpR op_eq (pe_ix ix_tupF (pv 2) pe_int (fun _ _ => rfl)) pe_str (nomark _)) (pss_one (ps_ret (pe_mkc (c_Ratio_init1 T) T.mk_Ratio (hr.mono (by omega)) rfl T.g_Ratio (pa_cons (pe_callTy call_int1 (by rfl) T.f_int (by decide +kernel) (pa_cons (pe_ix ix_tupF (pv 2) pe_int (fun _ _ => rfl)) pa_nil)) pa_nil)))) pss_nil)
      (pss_cons (ps_if (pt_cmpR op_eq (pe_ix ix_tupF (pv 2) pe_int (fun _ _ => rfl)) pe_str (nomark _)) (pss_cons (ps_setLc (i := 3) (own := [("part", 9)]) (g := gName 9) (tt := tYes) (by rfl) sc_chance_in.nd rfl rfl (sw_true rfl rfl rfl (by decide +kernel)) (pi_tup (pe_ix ix_tupF (pv 2) pe_int (fun _ _ => rfl))) (blkOk_by (own := [("part", 9)]) (N := ["runner", "state", "player", "parts", "later", "result", "after", "answer", "weight", "part"]) (sc := defScope s_chance_in) (by decide +kernel)) (fun _ _ _ _ _ => (pg_name (i := 9) sc_chance_in.nd rfl (Or.inl rfl))) (fun _ _ _ _ _ => pts_nil) (fun _ _ _ _ _ => (pe_cal ih (hr.mono (by omega)) rfl T.g_chance_in (pa_cons (pv 0) (pa_cons (pv 1) (pa_cons (pv 9) pa_nil))))))
      (pss_one (ps_ret (pe_op (op_own (c_Ratio_mul T) T.m_Ratio_mul T.self_Ratio (hr.mono (by omega))) (pe_cal (c_total T) (hr.mono (by omega)) rfl T.g_total (pa_cons (pv 3) pa_nil)) (pe_mkc (c_Ratio_init T) T.mk_Ratio (hr.mono (by omega)) rfl T.g_Ratio (pa_cons pe_int (pa_cons (pe_callB call_lenF (by rfl) T.f_len PySem.boot_len (pa_cons (pv 3) pa_nil)) pa_nil))))))) pss_nil)
      (pss_cons (ps_set (i := 4) sc_chance_in.nd rfl (Or.inl rfl) (pe_callTy (call_dictT rfl) (by rfl) T.f_dict (by decide +kernel) (pa_cons (pe_ix ix_tupF (pv 2) pe_int (fun _ _ => rfl)) pa_nil)))
      (pss_cons (ps_set (i := 5) sc_chance_in.nd rfl (Or.inl rfl) (pe_mkc (c_Ratio_init1 T) T.mk_Ratio (hr.mono (by omega)) rfl T.g_Ratio (pa_cons pe_int pa_nil)))
      (pss_cons (ps_for PassesOwn.never rfl (pi_list (pe_metc (c_Runner_ends T) (pv 0) T.cl_Runner T.m_Runner_ends (hr.mono (by omega)) (pa_cons (pv 1) (pa_cons (pe_ix ix_tupF (pv 2) pe_int (fun _ _ => rfl)) (pa_cons (pe_ix ix_tupF (pv 2) pe_int (fun _ _ => rfl)) pa_nil))))) (pg_tup rfl (pgs_cons (pg_name (i := 6) sc_chance_in.nd rfl (Or.inl rfl)) (pgs_cons (pg_name (i := 7) sc_chance_in.nd rfl (Or.inl rfl)) (pgs_cons (pg_name (i := 8) sc_chance_in.nd rfl (Or.inl rfl)) pgs_nil)))) (pss_one (ps_if (pt_din hu (pv 7) (pv 4)) (pss_one (ps_set (i := 5) sc_chance_in.nd rfl (Or.inl rfl) (pe_op (op_own (c_Ratio_add T) T.m_Ratio_add T.self_Ratio (hr.mono (by omega))) (pv 5) (pe_op (op_own (c_Ratio_mul T) T.m_Ratio_mul T.self_Ratio (hr.mono (by omega))) (pv 8) (pe_cal ih (hr.mono (by omega)) rfl T.g_chance_in (pa_cons (pv 0) (pa_cons (pv 6) (pa_cons (pe_dget hu (pv 4) (pv 7) (fun _ _ => rfl)) pa_nil)))))))) pss_nil)))
      (pss_one (ps_ret (pv 5)))))))), ?_⟩
  have say : ∀ b : Bool, mkRat (if b = true then 1 else 0) (1 : Int).toNat = bR b := by
    intro b
    cases b <;> decide +kernel
  cases k with
  | zero =>
    have hv : Rp H v (.tuple [.str "say", .bool p]) := hv
    walk_at "vc"
    refine .inr ⟨p, rfl, ?_⟩
    walk_at "vc"
    exact y_mkR' (r := bR p) (by decide) (by split <;> decide) (by decide) (say p) fun r H' s1 h1 => q r H' s1 h1
  | succ k =>
    have hdk := DD_mono (k := k) n0
    rcases p with b | ps | qs
    · have hv : Rp H v (.tuple [.str "say", .bool b]) := hv
      walk_at "vc"
      refine .inr ⟨b, rfl, ?_⟩
      walk_at "vc"
      exact y_mkR' (r := bR b) (by decide) (by split <;> decide) (by decide) (say b) fun r H' s1 h1 => q r H' s1 h1
    · have hv : Rp H v (.tuple [.str "toss", .tuple (ps.map (plD k))]) := hv
      obtain ⟨h1, h2, h3⟩ := hok
      have l0 : ps.length ≠ 0 := fun z => h1 (List.length_eq_zero_iff.mp z)
      walk_at "vc"
      rename_i u hu'
      obtain ⟨a1, x1, rfl, t1, r1⟩ := hu'.t_
      have hx1 : x1.length = ps.length := by rw [r1.len, List.length_map]
      refine y_lcT (fun D i y H' => ∃ r, (ps.map (chP n s k t))[i]? = some r ∧ RR K H' y r) (fun D ys i v H H' hD bt ⟨r, e, g⟩ => ⟨r, e, g.fz (Fz.but bt hD nf_lst)⟩) t1 (by omega) (fun D i x' H' acc hi hD s1 hacc Q' q' => ?_) mg_name fun D H1 acc hD s1 hacc hla hr1 => ?_
      · obtain ⟨d, hd, hr'⟩ := r1.get' hi
        rw [List.getElem?_map] at hd
        obtain ⟨p', hp', rfl⟩ := Option.map_eq_some_iff.mp hd
        walk_at "vc"
        refine ⟨rfl, ?_⟩
        walk_at "vc"
        refine ⟨x, st, x', p', n, s, t, rfl, hx.same s1, hst.same s1, ⟨hS.1, hS.2.1, by have := hS.2.2.1; omega, hS.2.2.2⟩, hr'.same s1, h3 p' (List.mem_of_getElem? hp'), n0, hn, hs, by omega, fun r H2 s2 h2 => ?_⟩
        exact q' _ _ s2 ⟨_, by rw [List.getElem?_map, hp']; rfl, h2⟩
      have hrl : RRL K H1 acc (ps.map (chP n s k t)) := paired_ix (by rw [hla, hx1, List.length_map]) fun i a b e1 e2 => by
        obtain ⟨r, g1, g2⟩ := hr1 i a e1
        rw [e2] at g1
        cases g1
        exact g2
      have inr : ∀ r ∈ ps.map (chP n s k t), InR (DD n k) (DD n k) r := fun r hr => by
        obtain ⟨p, hp, rfl⟩ := List.mem_map.mp hr
        exact ch_form n0 k t p (h3 p hp)
      have hsm : ∀ i, i ≤ (ps.map (chP n s k t)).length → Sm (sumR ((ps.map (chP n s k t)).take i)) := fun i hi => by
        have f := sum_form (DD_ne n0) (rs := (ps.map (chP n s k t)).take i) fun r hr => inr r (List.mem_of_mem_take hr)
        refine f.sm (DD_ne n0) (by omega) ?_
        have : ((ps.map (chP n s k t)).take i).length ≤ 3 := by
          rw [List.length_take, List.length_map]
          omega
        have : ((ps.map (chP n s k t)).take i).length * DD n k ≤ 3 * DD n k := Nat.mul_le_mul_right _ this
        omega
      walk_at "vc"
      refine ⟨D, acc, _, rfl, hacc, hrl, hsm, fun r hr => (inr r hr).sm (DD_ne n0) (by omega) (by omega), fun v2 H2 s2 h2 => ?_⟩
      walk_at "vc"
      have hl : (acc.length : Int) = (ps.length : Nat) := by rw [hla, hx1]
      rw [hl]
      refine y_mkR' (r := mkRat 1 ps.length) (by omega) (by decide) (by omega) (by rw [Int.toNat_natCast]) fun v3 H3 s3 h3' => ?_
      walk_at "vc"
      have hs0 := hsm _ (Nat.le_refl _)
      rw [List.take_length] at hs0
      refine y_rop (h2.same s3) h3' hs0 (sm_1n _ (by omega) (by omega)) fun v4 H4 s4 h4 => ?_
      exact q _ _ (((s1.trans s2).trans s3).trans s4) h4
    · have hv : Rp H v (.tuple [.str "ask", .str "p", .int 0, .tuple (qs.map fun q => .tuple [.int (q.1 : Nat), plD k q.2])]) := hv
      obtain ⟨h1, h2, h3⟩ := hok
      walk_at "vc"
      rename_i u hu'
      obtain ⟨a1, x1, rfl, t1, r1⟩ := hu'.t_
      obtain ⟨ps, kvs, rfl, e1, e2⟩ := ask_rows r1
      have nd : (kvs.map (·.1)).Nodup := by
        rw [ask_keys e2]
        exact List.Pairwise.map _ (fun a b hab z => hab (by injection z with z; omega)) h2
      refine ⟨a1, ps, kvs, rfl, t1, e1, fun dd H1 f1 s1 g1 => ?_⟩
      rw [mergeK_nodup _ [] (by simpa using nd), List.nil_append] at g1
      walk_at "vc"
      refine y_mkR' (r := 0) (by decide) (by decide) (by decide) (by decide +kernel) fun v2 H2 s2 k2 => ?_
      have s02 := s1.trans s2
      have hv2 := hv.same s02
      have hst2 := hst.same s02
      walk_at "vc"
      refine y_runM (hx.same s02) (fun _ => rfl) ?_
      walk_at "vc"
      refine ⟨x, st, n, s, t.1, t.2, rfl, hx.same s02, hst2, hS.1, hS.2.1, by have := hS.2.2.1; omega, hS.2.2.2, n0, hn, hs, fun le H3 s3 hE => ?_⟩
      obtain ⟨tes, q1, q2, q3⟩ := hE
      have s03 := s02.trans s3
      refine y_forL q1 (fun j σ' H' => ∃ r z6 z7 z8, σ' = [some x, some st, some v, none, some (.ref dd), some r, z6, z7, z8, none] ∧ Same H3 H' ∧ RR K H' r ((List.range j).foldl (askF n s k t qs) 0)) ⟨v2, none, none, none, rfl, fun _ _ e => e, k2.same s3⟩ (fun i σ' H' _ ⟨_, _, _, _, _, z, _⟩ => z _ _ q1) ?_ ?_
      · rintro j y σ' H' hj ⟨r, z6, z7, z8, rfl, sH, hr'⟩
        have hj2 : j < n := by
          have := (List.getElem?_eq_some_iff.mp hj).1
          rw [List.length_map, q2] at this
          exact this
        rw [List.getElem?_map] at hj
        obtain ⟨t3, ht3, rfl⟩ := Option.map_eq_some_iff.mp hj
        obtain ⟨v3, r3, m1, m2, m3⟩ := q3 j t3 ht3
        have m1' := m1.same sH
        have m2' := m2.same sH
        have m3' := m3.same sH
        have s0H := s03.trans sH
        have gdd := sH _ _ (s3 _ _ (s2 _ _ g1))
        have hf := askF_form (n := n) (s := s) (k := k) (t := t) (qs := qs) n0 h3 j (by omega)
        have hstep : (List.range (j + 1)).foldl (askF n s k t qs) 0 = askF n s k t qs ((List.range j).foldl (askF n s k t qs) 0) j := by
          rw [List.range_succ, List.foldl_append]
          rfl
        walk_at "vc"
        refine y_dinI gdd ?_
        rcases ask_get e2 (eAns n s t.1 t.2 j) with ⟨w1, w2⟩ | ⟨qq, vq, w1, w2, w3⟩
        · rw [w2]
          walk_at "vc"
          refine ⟨r, _, _, _, rfl, sH, ?_⟩
          rw [hstep]
          unfold askF
          rw [w1]
          exact hr'
        · rw [w2]
          walk_at "vc"
          refine y_dgetR gdd w2 ?_
          walk_at "vc"
          refine ⟨x, v3, vq, qq.2, n, s, (eKs t.1 j, eB t.1 t.2 j), rfl, hx.same s0H, m2', hS.next hj2, w3.same s0H, h3 qq (List.mem_of_find?_eq_some w1), n0, hn, hs, by omega, fun r4 H4 s4 h4 => ?_⟩
          have f4 := ch_form (n := n) (s := s) n0 k (eKs t.1 j, eB t.1 t.2 j) qq.2 (h3 qq (List.mem_of_find?_eq_some w1))
          refine y_rop (m3'.same s4) h4 (sm_1n n hn n0) (f4.sm (DD_ne n0) (by omega) (by omega)) fun v5 H5 s5 h5 => ?_
          have f5 := mul_form' (L := n) (c := 6) (by omega) (by decide) f4
          have e5 : DD n k * (n * 6) = DD n (k + 1) := by rw [DD_succ, Nat.mul_comm n 6]
          rw [e5] at f5
          refine y_rop ((hr'.same s4).same s5) h5 (hf.sm (DD_ne n0) (by omega) (by omega)) (f5.sm (DD_ne n0) (by omega) (by omega)) fun v6 H6 s6 h6 => ?_
          refine ⟨v6, _, _, _, rfl, sH.trans ((s4.trans s5).trans s6), ?_⟩
          rw [hstep]
          unfold askF
          rw [w1]
          exact h6
      · rintro σ' H' ⟨r, z6, z7, z8, rfl, sH, hr'⟩
        rw [List.length_map, q2] at hr'
        walk_at "vc"
        exact q _ _ (s03.trans sH) hr'
theorem c_chance_in (T : Tx K mg) : ∀ k, Cal P w K mg base (k + 8) d_chance_in ["runner", "state", "player"] [] (sp_chance_in K k)
  | 0 => Cal.of T.d_chance_in rfl rfl (fun _ _ _ _ _ _ us hl => match us, hl with | [_, _, _], _ => rfl) fun fd F => ok_chance_in T 0 ((n_chance_in T).mono (by omega)) F
  | k + 1 => Cal.of T.d_chance_in rfl rfl (fun _ _ _ _ _ _ us hl => match us, hl with | [_, _, _], _ => rfl) fun fd F => ok_chance_in T (k + 1) (c_chance_in T k) F
end
end Tn
set_option Elab.async false
set_option linter.all false
set_option maxRecDepth 100000
set_option maxHeartbeats 8000000
set_option pp.maxSteps 400
namespace Tn
open PySem PySem.Spec L2
local macro_rules | `(tactic| walk_at "tz") => `(tactic| first
  | ((refine' Tz.same ?s); (case s => with_reducible assumption))
  | ((refine' Tz.but ?b ?h ?n); (case b => with_reducible assumption); (case h => walk_at "look"); (case n => (intro o v z; cases z))))
local macro_rules | `(tactic| walk_at "fz") => `(tactic| first
  | ((refine' Fz.same ?s); (case s => with_reducible assumption))
  | ((refine' Fz.but ?b ?h ?n); (case b => with_reducible assumption); (case h => walk_at "look"); (case n => first | exact nf_lst | exact nf_dK | exact nf_ext | assumption)))
local macro_rules | `(tactic| walk_at "look") => `(tactic| first
  | with_reducible assumption
  | ((with_reducible refine' Same.app ?s ?m); (case s => with_reducible assumption); (case m => walk_at "look"))
  | ((with_reducible refine' RR.fz ?z ?m); (case z => walk_at "fz"); (case m => walk_at "look"))
  | ((with_reducible refine' Rp.tz ?z ?m); (case z => walk_at "tz"); (case m => walk_at "look"))
  | ((with_reducible refine' TU.tz ?z ?m); (case z => walk_at "tz"); (case m => walk_at "look"))
  | ((with_reducible refine' RpL.tz ?z ?m); (case z => walk_at "tz"); (case m => walk_at "look"))
  | ((with_reducible refine' GM.fz ?z ?m); (case z => walk_at "fz"); (case m => walk_at "look"))
  | ((with_reducible refine' But.app' ?b ?n ?m); (case b => with_reducible assumption); (case n => first | assumption | (refine Ne.symm ?_; assumption)); (case m => walk_at "look"))
  | ((with_reducible refine' But.app ?b ?l ?d ?m); (case b => with_reducible assumption); (case m => walk_at "look"); (case l => walk_at "look"); (case d => (intro z; cases z))))
local macro_rules | `(tactic| walk_at "rp") => `(tactic| first
  | (with_reducible assumption)
  | walk_at "look"
  | exact Rp.bl _ | exact Rp.int _ | exact Rp.str _ | exact Rp.non
  | ((refine' Rp.tup ?h ?l); (case h => walk_at "look"); (case l => walk_at "rpl")))
local macro_rules | `(tactic| walk_at "rpl") => `(tactic| first
  | exact RpL.nil
  | ((refine' RpL.cons ?h ?l); (case h => walk_at "rp"); (case l => walk_at "rpl")))
local macro_rules | `(tactic| walk_at "vc") => `(tactic| repeat (first
  | with_reducible refine' x_seq ?_
  | with_reducible refine' x_ifS ?_
  | with_reducible refine' x_asg ?_
  | with_reducible refine' x_drop ?_
  | with_reducible refine' x_ret ?_
  | with_reducible refine' x_name ?_
  | with_reducible refine' x_c ?_
  | ((with_reducible refine' x_var ?h ?_); (case h => rfl))
  | with_reducible refine' x_op ?_
  | with_reducible refine' x_un ?_
  | with_reducible refine' x_tup ?_
  | with_reducible refine' x_lst ?_
  | ((with_reducible refine' x_gtup ?h ?l ?_); (case h => walk_at "look"); (case l => rfl))
  | ((with_reducible refine' x_gtup' ?h ?l ?_); (case h => walk_at "look"); (case l => rfl))
  | with_reducible refine' x_gcons ?_
  | with_reducible refine' x_gnil ?_
  | with_reducible refine' x_nil ?_
  | with_reducible refine' x_cons ?_
  | with_reducible refine' x_call ?_
  | with_reducible refine' x_meth ?_
  | ((with_reducible refine' x_methv ?h ?l ?_); (case h => walk_at "look"); (case l => first | rfl | decide +kernel))
  | with_reducible refine' x_make ?_
  | with_reducible refine' x_cb ?_
  | with_reducible refine' x_test ?_
  | with_reducible refine' x_B ?_
  | with_reducible refine' x_and ?_
  | with_reducible refine' x_or ?_
  | with_reducible refine' x_not ?_
  | with_reducible refine' x_if ?_
  | with_reducible refine' x_andV ?_
  | with_reducible refine' x_orV ?_
  | with_reducible refine' x_notV ?_
  | with_reducible refine' x_next ?_
  | with_reducible refine' x_gfldc ?_
  | with_reducible refine' x_bmF ?_
  | with_reducible refine' x_bmF0 ?_
  | ((with_reducible refine' y_tyL ?h ?_); (case h => walk_at "look"))
  | ((with_reducible refine' y_tyD ?h ?_); (case h => walk_at "look"))
  | ((with_reducible refine' y_lenL ?h ?_); (case h => walk_at "look"))
  | ((with_reducible refine' y_lenR ?h ?_); (case h => walk_at "look"))
  | with_reducible refine' x_forT ?_
  | with_reducible refine' x_forL ?_
  | with_reducible refine' x_lcT ?_
  | with_reducible refine' x_lcL ?_
  | ((with_reducible refine' y_tupleL ?h ?_); (case h => walk_at "look"); intro _ _ _ _ _)
  | ((with_reducible refine' y_tupleR ?h ?_); (case h => walk_at "look"))
  | ((with_reducible refine' y_tupleT ?h ?_); (case h => walk_at "look"))
  | with_reducible refine' x_cont ?_
  | with_reducible refine' x_dget ?_
  | with_reducible refine' x_din ?_
  | with_reducible refine' x_dput ?_
  | ((with_reducible refine' x_dnewN ?_); intro _ _ _ _ _)
  | with_reducible refine' x_nget2 ?_
  | with_reducible refine' x_nput ?_
  | with_reducible refine' x_lcN ?_
  | with_reducible refine' x_lcKF ?_
  | with_reducible refine' x_itemsN ?_
  | ((with_reducible refine' x_dnewK ?_); intro _ _ _ _ _)
  | with_reducible refine' x_forRev ?_
  | with_reducible refine' x_sl ?_
  | with_reducible refine' x_nopart ?_
  | with_reducible refine' x_part ?_
  | with_reducible refine' x_partI ?_
  | with_reducible refine' x_revL ?_
  | with_reducible refine' x_sfldc ?_
  | with_reducible refine' x_bl ?_
  | ((with_reducible refine' x_fldc ?h ?l ?_); (case h => walk_at "look"); (case l => first | rfl | decide +kernel))
  | ((with_reducible refine' x_setc ?h ?l ?_); (case h => walk_at "look"); (case l => exact Nat.le_of_ble_eq_true rfl); intro _ _ _)
  | ((with_reducible refine' y_num ?h ?_); (case h => walk_at "look"))
  | ((with_reducible refine' y_den ?h ?_); (case h => walk_at "look"))
  | with_reducible refine' y_I0 ?_
  | ((with_reducible refine' y_ixS ?h ?e ?a ?_); (case h => walk_at "look"); (case e => rfl); (case a => rfl))
  | ((with_reducible refine' y_ixI ?h ?e ?a ?_); (case h => walk_at "look"); (case e => rfl); (case a => rfl))
  | ((with_reducible refine' y_ixB ?h ?e ?a ?_); (case h => walk_at "look"); (case e => rfl); (case a => rfl))
  | ((with_reducible refine' y_ixR ?h ?e ?a ?_); (case h => walk_at "look"); (case e => rfl); (case a => rfl); intro _ _)
  | ((with_reducible refine' y_ixT ?h ?a ?_); (case h => walk_at "look"); (case a => rfl))
  | ((with_reducible refine' y_eq ?s ?_); (case s => rfl))
  | ((with_reducible refine' y_ne ?s ?_); (case s => rfl))
  | ((with_reducible refine' x_rtup ?l ?_); (case l => exact Nat.le_of_ble_eq_true rfl); intro _ _ _ _ _)
  | ((with_reducible refine' x_rlst ?l ?_); (case l => exact Nat.le_of_ble_eq_true rfl); intro _ _ _ _ _)
  | ((with_reducible refine' ite_t ?h ?_); (case h => first | with_reducible rfl | assumption | exact decide_eq_true (by omega) | decide +kernel | rfl))
  | ((with_reducible refine' ite_f ?h ?_); (case h => first | with_reducible rfl | assumption | exact decide_eq_false (by omega) | decide +kernel | rfl))))
local macro_rules | `(tactic| walk_at "same") => `(tactic| first
  | with_reducible assumption
  | ((with_reducible refine' Same.trans ?a ?b); (case b => with_reducible assumption); (case a => walk_at "same")))
def sp_chance (K : PySem.W.Frag) (k : Nat) : Sp := fun vs H Q _ => ∃ (x v : V) (p : Py k) (n s : Nat), vs = [x, v] ∧ GM K H x n s ∧ Rp H v (plD k p) ∧ okP k p ∧ k ≤ 8 ∧ 0 < n ∧ n < 60 ∧ s < 1000 ∧ DD n k < 2 ^ 40 ∧ ∀ r H', Same H H' → RR K H' r (chP n s k ([], false) p) → Q r H'
def sp_l_less : Sp := fun vs H Q _ => ∃ (x : Int) (y : Nat), vs = [.int x, .int (y : Nat)] ∧ 0 < y ∧ y < 2000 ∧ x.natAbs < 2 ^ 60 ∧ ∀ t H', Same H H' → TU H' t [.int (mkRat x y).num, .int ((mkRat x y).den : Nat)] → Q (.ref t) H'
def sp_l_times : Sp := fun vs H Q _ => ∃ (t u : Addr) (r : Rat) (a b : Nat), vs = [.ref t, .ref u] ∧ TU H t [.int r.num, .int (r.den : Nat)] ∧ TU H u [.int (a : Nat), .int (b : Nat)] ∧ 0 < b ∧ b * r.den < 2000 ∧ a < 1000 ∧ r.num.natAbs < 2 ^ 40 ∧ ∀ t' H', Same H H' → TU H' t' [.int (r * mkRat a b).num, .int ((r * mkRat a b).den : Nat)] → Q (.ref t') H'
def sp_l_calls (K : PySem.W.Frag) (k : Nat) : Sp := sp_calls_of K k
def prevL (K : PySem.W.Frag) : Nat → Sp
  | 0 => spNo
  | k + 1 => sp_l_calls K k
def sp_l_game (K : PySem.W.Frag) : Sp := fun vs H Q _ => ∃ (n s : Nat), vs = [.int (n : Nat), .int (s : Nat)] ∧ ∀ v H', Same H H' → GM K H' v n s → Q v H'
section
variable {P : Program} {w : World} {K : PySem.W.Frag} {mg : Str → Option Value} {base : Heap}
theorem sc_l_less : FnScope ["_law_num", "_law_den", "_law_a", "_law_b", "_law_k", "_law_c"] ["_law_num", "_law_den"] (defScope s_l_less) := ⟨rfl, rfl, rfl, by decide +kernel, rfl, by decide +kernel, by decide +kernel⟩
theorem sc_l_times : FnScope ["_law_one", "_law_other"] ["_law_one", "_law_other"] (defScope s_l_times) := ⟨rfl, rfl, rfl, by decide +kernel, rfl, by decide +kernel, by decide +kernel⟩
theorem sc_l_calls : FnScope ["_law_player_here", "_law_part", "_law_pair"] ["_law_player_here"] (defScope s_l_calls) := ⟨rfl, rfl, rfl, by decide +kernel, rfl, by decide +kernel, by decide +kernel⟩
theorem sc_l_game : FnScope ["_law_count", "_law_shift", "_law_draw", "_law_test", "_law_put", "_law_after"] ["_law_count", "_law_shift"] (defScope s_l_game) := ⟨rfl, rfl, rfl, by decide +kernel, rfl, by decide +kernel, by decide +kernel⟩
theorem y_mkGame {H : Hp} {Q : VK} {a b c d : V} {n s : Nat} (ha : Rp H a gNone) (hb : Rp H b (gTabs n)) (hc : Rp H c gNone) (hd : Rp H d (gProcs n s)) (q : ∀ v H', Same H H' → GM K H' v n s → Q v H') : rMake (He.ga K "Game") (sp_Game_init K) [a, b, c, d] H Q := by
  intro x dx hx hdx ne
  have sx : Same H (upd (upd H dx (.own x)) x (.ins (He.ga K "Game") dx [])) := fun c o e => by
    rw [upd_ne (ne_of_none e hx), upd_ne (ne_of_none e hdx)]
    exact e
  refine ⟨x, dx, a, b, c, d, n, s, rfl, upd_same, ha.same sx, hb.same sx, hc.same sx, hd.same sx, fun H' b1 e1 => ⟨rfl, ?_⟩⟩
  have s1 : Same H H' := Same.but sx hx b1
  exact q _ _ s1 ⟨x, dx, a, b, c, d, rfl, e1, ha.same s1, hb.same s1, hc.same s1, hd.same s1⟩
theorem ok_chance (T : Tx K mg) (k : Nat) {fd : FuncData} (F : FnX K d_chance fd) : FnOk P w K mg base CX0 (k + 9) (He.fAd K d_chance.at_) fd ["game", "player"] (sp_chance K k) := by
  refine F.ok sc_chance (fun vs H Q E h => ?_) (fun cdv A outer s0 H vs Q E hr h => ?_)
  · obtain ⟨x, v, p, n, s, rfl, _⟩ := h
    rfl
  obtain ⟨x, v, p, n, s, rfl, hx, hv, hok, hk8, n0, hn, hs, hD, q⟩ := h
  refine ⟨_, PSs.nox (pss_cons (ps_expr (pe_cal (c_check_player8 T k) (hr.mono (by omega)) rfl T.g_check_player (pa_cons (pv 0) (pa_cons (pv 1) pa_nil))))
      (pss_one (ps_ret (pe_cal (c_chance_in T k) (hr.mono (by omega)) rfl T.g_chance_in (pa_cons (pe_mkc (c_Runner_init T) T.mk_Runner (hr.mono (by omega)) rfl T.g_Runner (pa_cons (pv 0) pa_nil)) (pa_cons (pe_cal (c_first_state T) (hr.mono (by omega)) rfl T.g_first_state (pa_cons (pv 0) pa_nil)) (pa_cons (pv 1) pa_nil))))))), ?_⟩
  walk_at "vc"
  refine ⟨x, v, p, n, s, 8, rfl, hx, hv, hok, hk8, fun H1 s1 => ?_⟩
  walk_at "vc"
  refine y_mkRun (hx.same s1) fun r2 H2 s2 h2 => ?_
  walk_at "vc"
  refine ⟨x, n, s, rfl, (hx.same s1).same s2, fun v3 H3 s3 h3 => ?_⟩
  walk_at "vc"
  refine ⟨r2, v3, v, p, n, s, ([], false), rfl, h2.same s3, h3, ⟨.nil, .nil, by simp; omega, fun k hk => by cases hk⟩, ((hv.same s1).same s2).same s3, hok, n0, hn, hs, hD, fun r H' s4 h4 => ?_⟩
  exact q r H' (((s1.trans s2).trans s3).trans s4) h4
theorem c_chance (T : Tx K mg) (k : Nat) : Cal P w K mg base (k + 9) d_chance ["game", "player"] [] (sp_chance K k) :=
  Cal.of T.d_chance rfl rfl (fun _ _ _ _ _ _ us hl => match us, hl with | [_, _], _ => rfl) fun fd F => ok_chance T k F
theorem ok_l_less (T : Tx K mg) {fd : FuncData} (F : FnX K d_l_less fd) : FnOk P w K mg base CX0 1 (He.fAd K d_l_less.at_) fd ["_law_num", "_law_den"] sp_l_less := by
  refine F.ok sc_l_less (fun vs H Q E h => ?_) (fun cdv A outer s0 H vs Q E hr h => ?_)
  · obtain ⟨x, y, rfl, _⟩ := h
    rfl
  obtain ⟨x, y, rfl, y0, hy, hx, q⟩ := h
  refine ⟨_, PSs.nox (pss_cons (ps_set (i := 2) sc_l_less.nd rfl (Or.inl rfl) (pe_callB call_abs (by rfl) T.f_abs (by decide +kernel) (pa_cons (pv 0) pa_nil)))
      (pss_cons (ps_set (i := 3) sc_l_less.nd rfl (Or.inl rfl) (pv 1))
      (pss_cons (ps_for PassesOwn.never rfl (pi_range1 rfl T.f_range (pa_cons pe_int pa_nil)) (pg_name (i := 4) sc_l_less.nd rfl (Or.inl rfl)) (pss_cons (ps_if (pt_cmpR op_eq (pv 3) pe_int (nomark _)) (pss_one ps_break) pss_nil)
      (pss_cons (ps_set (i := 5) sc_l_less.nd rfl (Or.inl rfl) (pe_op op_mod (pe_callTy call_int1 (by rfl) T.f_int (by decide +kernel) (pa_cons (pv 2) pa_nil)) (pv 3)))
      (pss_cons (ps_set (i := 2) sc_l_less.nd rfl (Or.inl rfl) (pv 3))
      (pss_one (ps_set (i := 3) sc_l_less.nd rfl (Or.inl rfl) (pv 5)))))))
      (pss_one (ps_ret (pe_tupF (pa_cons (pe_op op_fdiv (pv 0) (pv 2)) (pa_cons (pe_op op_fdiv (pv 1) (pv 2)) pa_nil)))))))), ?_⟩
  walk_at "vc"
  refine ⟨x, rfl, ?_⟩
  walk_at "vc"
  have ea : (if x < 0 then -x else x) = (x.natAbs : Int) := by split <;> omega
  rw [ea]
  have fin : ∀ (a : Nat), a = Nat.gcd y x.natAbs → (mkRat x y).num = x / (a : Int) ∧ ((mkRat x y).den : Int) = (y : Int) / (a : Int) := by
    rintro a rfl
    have nz : y ≠ 0 := by omega
    exact ⟨by rw [Rat.num_mkRat, if_neg nz], by rw [Rat.den_mkRat, if_neg nz, Int.natCast_ediv]⟩
  refine y_forI (n := 2000) (by decide) (by decide) (fun i σ' H' => H' = H ∧ ∃ (a b : Nat) (z4 z5 : Option V), σ' = [some (.int x), some (.int (y : Nat)), some (.int (a : Nat)), some (.int (b : Nat)), z4, z5] ∧ Nat.gcd b a = Nat.gcd y x.natAbs ∧ b + i ≤ y) ?h0 ?hs ?hd (fun Q q => ?ha)
  case h0 => exact ⟨rfl, x.natAbs, y, none, none, rfl, rfl, by omega⟩
  case ha =>
    walk_at "vc"
    exact q
  case hd =>
    rintro σ' H' ⟨rfl, a, b, z4, z5, rfl, hg, hb⟩
    simp at hb
    omega
  rintro i σ' H' hi ⟨rfl, a, b, z4, z5, rfl, hg, hb⟩
  walk_at "vc"
  by_cases hb0 : b = 0
  · subst hb0
    refine ite_t (by rfl) ?_
    walk_at "vc"
    rw [Nat.gcd_zero_left] at hg
    obtain ⟨e1, e2⟩ := fin a hg
    have a0 : 0 < a := by rw [hg]; exact Nat.gcd_pos_of_pos_left _ y0
    have ay : a ≤ y := by rw [hg]; exact Nat.gcd_le_left _ y0
    refine x_break ?_
    walk_at "vc"
    refine y_I (show CDiv _ _ from ⟨by omega, by omega⟩) ?_
    walk_at "vc"
    refine y_I (show CDiv _ _ from ⟨by omega, by omega⟩) ?_
    walk_at "vc"
    rename_i p1 H1 f1 s1 t1
    refine q p1 H1 s1 ?_
    rw [e1, e2]
    exact t1
  · refine ite_f (decide_eq_false fun z => by injection z with z; omega) ?_
    walk_at "vc"
    refine .inl ⟨a, rfl, ?_⟩
    walk_at "vc"
    refine y_I (by omega : (0 : Int) < (b : Int)) ?_
    walk_at "vc"
    refine ⟨rfl, b, a % b, _, _, by rw [Int.natCast_emod]; rfl, ?_, ?_⟩
    · rw [← hg]
      exact (Nat.gcd_rec b a).symm
    · have := Nat.mod_lt a (by omega : b > 0)
      omega
theorem c_l_less (T : Tx K mg) : Cal P w K mg base 1 d_l_less ["_law_num", "_law_den"] [] sp_l_less :=
  Cal.of T.d_l_less rfl rfl (fun _ _ _ _ _ _ us hl => match us, hl with | [_, _], _ => rfl) fun fd F => ok_l_less T F
theorem ok_l_times (T : Tx K mg) {fd : FuncData} (F : FnX K d_l_times fd) : FnOk P w K mg base CX0 2 (He.fAd K d_l_times.at_) fd ["_law_one", "_law_other"] sp_l_times := by
  refine F.ok sc_l_times (fun vs H Q E h => ?_) (fun cdv A outer s0 H vs Q E hr h => ?_)
  · obtain ⟨t, u, r, a, b, rfl, _⟩ := h
    rfl
  obtain ⟨t, u, r, a, b, rfl, ht, hu, b0, hb, ha, hr', q⟩ := h
  refine ⟨_, PSs.nox (pss_one (ps_ret (pe_cal (c_l_less T) (hr.mono (by omega)) rfl T.g_l_less (pa_cons (pe_op op_mul (pe_ix ix_tupF (pv 0) pe_int (fun _ _ => rfl)) (pe_ix ix_tupF (pv 1) pe_int (fun _ _ => rfl))) (pa_cons (pe_op op_mul (pe_ix ix_tupF (pv 0) pe_int (fun _ _ => rfl)) (pe_ix ix_tupF (pv 1) pe_int (fun _ _ => rfl))) pa_nil))))), ?_⟩
  have hd := r.den_pos
  have l1 : r.den < 2000 := Nat.lt_of_le_of_lt (Nat.le_mul_of_pos_left _ b0) hb
  have l2 : b < 2000 := Nat.lt_of_le_of_lt (Nat.le_mul_of_pos_right _ hd) hb
  walk_at "vc"
  refine y_I (cm_of (by omega)) ?_
  walk_at "vc"
  refine y_I (cm_of (by omega)) ?_
  walk_at "vc"
  have em : mkRat (r.num * (a : Int)) (r.den * b) = r * mkRat (a : Int) b := by
    conv => rhs; rw [← Rat.mkRat_self r]
    rw [Rat.mkRat_mul_mkRat]
  refine ⟨r.num * (a : Int), r.den * b, by rw [Int.natCast_mul]; rfl, Nat.mul_pos hd b0, by rw [Nat.mul_comm]; exact hb, ?_, ?_⟩
  · exact Nat.lt_trans (mul_lt2 (m := 40) (n := 10) hr' (by omega)) (by decide)
  · rw [em]
    exact q
theorem c_l_times (T : Tx K mg) : Cal P w K mg base 2 d_l_times ["_law_one", "_law_other"] [] sp_l_times :=
  Cal.of T.d_l_times rfl rfl (fun _ _ _ _ _ _ us hl => match us, hl with | [_, _], _ => rfl) fun fd F => ok_l_times T F
theorem ok_l_game (T : Tx K mg) {fd : FuncData} (F : FnX K d_l_game fd) : FnOk P w K mg base CX0 3 (He.fAd K d_l_game.at_) fd ["_law_count", "_law_shift"] (sp_l_game K) := by
  refine F.ok sc_l_game (fun vs H Q E h => ?_) (fun cdv A outer s0 H vs Q E hr h => ?_)
  · obtain ⟨n, s, rfl, _⟩ := h
    rfl
  obtain ⟨n, s, rfl, q⟩ := h
  refine ⟨_, PSs.nox (pss_cons (ps_set (i := 2) sc_l_game.nd rfl (Or.inl rfl) (pe_tupF (pa_cons pe_str (pa_cons pe_str (pa_cons (pv 0) pa_nil)))))
      (pss_cons (ps_set (i := 3) sc_l_game.nd rfl (Or.inl rfl) (pe_tupF (pa_cons pe_str (pa_cons (pe_tupF (pa_cons pe_str (pa_cons pe_str (pa_cons (pe_tupF (pa_cons pe_str (pa_cons pe_str pa_nil))) pa_nil)))) (pa_cons (pe_tupF (pa_cons (pe_tupF (pa_cons pe_str pa_nil)) pa_nil)) (pa_cons (pe_tupF pa_nil) pa_nil))))))
      (pss_cons (ps_set (i := 4) sc_l_game.nd rfl (Or.inl rfl) (pe_tupF (pa_cons pe_str (pa_cons pe_str (pa_cons (pe_tupF (pa_cons pe_str (pa_cons pe_str pa_nil))) (pa_cons (pe_tupF (pa_cons pe_str (pa_cons pe_int pa_nil))) pa_nil))))))
      (pss_cons (ps_set (i := 5) sc_l_game.nd rfl (Or.inl rfl) (pe_tupF (pa_cons pe_str (pa_cons (pe_tupF (pa_cons (pe_tupF (pa_cons pe_str (pa_cons pe_str (pa_cons (pe_tupF (pa_cons pe_str (pa_cons (pe_tupF (pa_cons pe_str (pa_cons (pe_tupF (pa_cons pe_str (pa_cons pe_str pa_nil))) (pa_cons (pe_tupF (pa_cons pe_str (pa_cons (pv 1) pa_nil))) pa_nil)))) (pa_cons (pe_tupF (pa_cons pe_str (pa_cons (pv 0) pa_nil))) pa_nil)))) pa_nil)))) pa_nil)) pa_nil))))
      (pss_one (ps_ret (pe_mkc (c_Game_init T) T.mk_Game (hr.mono (by omega)) rfl T.g_Game (pa_cons (pe_tupF pa_nil) (pa_cons (pe_tupF (pa_cons (pe_tupF (pa_cons pe_str (pa_cons (pv 0) (pa_cons pe_int pa_nil)))) pa_nil)) (pa_cons (pe_tupF pa_nil) (pa_cons (pe_tupF (pa_cons (pe_tupF (pa_cons pe_str (pa_cons pe_int (pa_cons (pv 0) (pa_cons (pe_tupF (pa_cons pe_str (pa_cons pe_str pa_nil))) (pa_cons (pe_tupF (pa_cons (pv 2) (pa_cons (pv 3) (pa_cons (pv 4) (pa_cons (pv 5) pa_nil))))) (pa_cons (pe_tupF (pa_cons pe_str (pa_cons pe_str pa_nil))) pa_nil))))))) pa_nil)) pa_nil))))))))))), ?_⟩
  walk_at "vc"
  refine y_mkGame (n := n) (s := s) ?ha ?hb ?hc ?hd fun v H' s1 h1 => q v H' ?hs h1
  case ha => walk_at "rp"
  case hb => walk_at "rp"
  case hc => walk_at "rp"
  case hd => walk_at "rp"
  case hs =>
    refine Same.trans ?_ s1
    walk_at "same"
theorem c_l_game (T : Tx K mg) : Cal P w K mg base 3 d_l_game ["_law_count", "_law_shift"] [] (sp_l_game K) :=
  Cal.of T.d_l_game rfl rfl (fun _ _ _ _ _ _ us hl => match us, hl with | [_, _], _ => rfl) fun fd F => ok_l_game T F
end
end Tn
set_option Elab.async false
set_option linter.all false
set_option maxRecDepth 100000
set_option maxHeartbeats 8000000
set_option pp.maxSteps 400
namespace Tn
open PySem PySem.Spec L2
local macro_rules | `(tactic| walk_at "tz") => `(tactic| first
  | ((refine' Tz.same ?s); (case s => with_reducible assumption))
  | ((refine' Tz.but ?b ?h ?n); (case b => with_reducible assumption); (case h => walk_at "look"); (case n => (intro o v z; cases z))))
local macro_rules | `(tactic| walk_at "fz") => `(tactic| first
  | ((refine' Fz.same ?s); (case s => with_reducible assumption))
  | ((refine' Fz.but ?b ?h ?n); (case b => with_reducible assumption); (case h => walk_at "look"); (case n => first | exact nf_lst | exact nf_dK | exact nf_ext | assumption)))
local macro_rules | `(tactic| walk_at "look") => `(tactic| first
  | with_reducible assumption
  | ((with_reducible refine' Same.app ?s ?m); (case s => with_reducible assumption); (case m => walk_at "look"))
  | ((with_reducible refine' RR.fz ?z ?m); (case z => walk_at "fz"); (case m => walk_at "look"))
  | ((with_reducible refine' Rp.tz ?z ?m); (case z => walk_at "tz"); (case m => walk_at "look"))
  | ((with_reducible refine' TU.tz ?z ?m); (case z => walk_at "tz"); (case m => walk_at "look"))
  | ((with_reducible refine' RpL.tz ?z ?m); (case z => walk_at "tz"); (case m => walk_at "look"))
  | ((with_reducible refine' GM.fz ?z ?m); (case z => walk_at "fz"); (case m => walk_at "look"))
  | ((with_reducible refine' But.app' ?b ?n ?m); (case b => with_reducible assumption); (case n => first | assumption | (refine Ne.symm ?_; assumption)); (case m => walk_at "look"))
  | ((with_reducible refine' But.app ?b ?l ?d ?m); (case b => with_reducible assumption); (case m => walk_at "look"); (case l => walk_at "look"); (case d => (intro z; cases z))))
local macro_rules | `(tactic| walk_at "rp") => `(tactic| first
  | (with_reducible assumption)
  | walk_at "look"
  | exact Rp.bl _ | exact Rp.int _ | exact Rp.str _ | exact Rp.non
  | ((refine' Rp.tup ?h ?l); (case h => walk_at "look"); (case l => walk_at "rpl")))
local macro_rules | `(tactic| walk_at "rpl") => `(tactic| first
  | exact RpL.nil
  | ((refine' RpL.cons ?h ?l); (case h => walk_at "rp"); (case l => walk_at "rpl")))
local macro_rules | `(tactic| walk_at "vc") => `(tactic| repeat (first
  | with_reducible refine' x_seq ?_
  | with_reducible refine' x_ifS ?_
  | with_reducible refine' x_asg ?_
  | with_reducible refine' x_drop ?_
  | with_reducible refine' x_ret ?_
  | with_reducible refine' x_name ?_
  | with_reducible refine' x_c ?_
  | ((with_reducible refine' x_var ?h ?_); (case h => rfl))
  | with_reducible refine' x_op ?_
  | with_reducible refine' x_un ?_
  | with_reducible refine' x_tup ?_
  | with_reducible refine' x_lst ?_
  | ((with_reducible refine' x_gtup ?h ?l ?_); (case h => walk_at "look"); (case l => rfl))
  | ((with_reducible refine' x_gtup' ?h ?l ?_); (case h => walk_at "look"); (case l => rfl))
  | with_reducible refine' x_gcons ?_
  | with_reducible refine' x_gnil ?_
  | with_reducible refine' x_nil ?_
  | with_reducible refine' x_cons ?_
  | with_reducible refine' x_call ?_
  | with_reducible refine' x_meth ?_
  | ((with_reducible refine' x_methv ?h ?l ?_); (case h => walk_at "look"); (case l => first | rfl | decide +kernel))
  | with_reducible refine' x_make ?_
  | with_reducible refine' x_cb ?_
  | with_reducible refine' x_test ?_
  | with_reducible refine' x_B ?_
  | with_reducible refine' x_and ?_
  | with_reducible refine' x_or ?_
  | with_reducible refine' x_not ?_
  | with_reducible refine' x_if ?_
  | with_reducible refine' x_andV ?_
  | with_reducible refine' x_orV ?_
  | with_reducible refine' x_notV ?_
  | with_reducible refine' x_next ?_
  | with_reducible refine' x_gfldc ?_
  | with_reducible refine' x_bmF ?_
  | with_reducible refine' x_bmF0 ?_
  | ((with_reducible refine' y_tyL ?h ?_); (case h => walk_at "look"))
  | ((with_reducible refine' y_tyD ?h ?_); (case h => walk_at "look"))
  | ((with_reducible refine' y_lenL ?h ?_); (case h => walk_at "look"))
  | ((with_reducible refine' y_lenR ?h ?_); (case h => walk_at "look"))
  | with_reducible refine' x_forT ?_
  | with_reducible refine' x_forL ?_
  | with_reducible refine' x_lcT ?_
  | with_reducible refine' x_lcL ?_
  | ((with_reducible refine' y_tupleL ?h ?_); (case h => walk_at "look"); intro _ _ _ _ _)
  | ((with_reducible refine' y_tupleR ?h ?_); (case h => walk_at "look"))
  | ((with_reducible refine' y_tupleT ?h ?_); (case h => walk_at "look"))
  | with_reducible refine' x_cont ?_
  | with_reducible refine' x_dget ?_
  | with_reducible refine' x_din ?_
  | with_reducible refine' x_dput ?_
  | ((with_reducible refine' x_dnewN ?_); intro _ _ _ _ _)
  | with_reducible refine' x_nget2 ?_
  | with_reducible refine' x_nput ?_
  | with_reducible refine' x_lcN ?_
  | with_reducible refine' x_lcKF ?_
  | with_reducible refine' x_itemsN ?_
  | ((with_reducible refine' x_dnewK ?_); intro _ _ _ _ _)
  | with_reducible refine' x_forRev ?_
  | with_reducible refine' x_sl ?_
  | with_reducible refine' x_nopart ?_
  | with_reducible refine' x_part ?_
  | with_reducible refine' x_partI ?_
  | with_reducible refine' x_revL ?_
  | with_reducible refine' x_sfldc ?_
  | with_reducible refine' x_bl ?_
  | ((with_reducible refine' x_fldc ?h ?l ?_); (case h => walk_at "look"); (case l => first | rfl | decide +kernel))
  | ((with_reducible refine' x_setc ?h ?l ?_); (case h => walk_at "look"); (case l => exact Nat.le_of_ble_eq_true rfl); intro _ _ _)
  | ((with_reducible refine' y_num ?h ?_); (case h => walk_at "look"))
  | ((with_reducible refine' y_den ?h ?_); (case h => walk_at "look"))
  | with_reducible refine' y_I0 ?_
  | ((with_reducible refine' y_ixS ?h ?e ?a ?_); (case h => walk_at "look"); (case e => rfl); (case a => rfl))
  | ((with_reducible refine' y_ixI ?h ?e ?a ?_); (case h => walk_at "look"); (case e => rfl); (case a => rfl))
  | ((with_reducible refine' y_ixB ?h ?e ?a ?_); (case h => walk_at "look"); (case e => rfl); (case a => rfl))
  | ((with_reducible refine' y_ixR ?h ?e ?a ?_); (case h => walk_at "look"); (case e => rfl); (case a => rfl); intro _ _)
  | ((with_reducible refine' y_ixT ?h ?a ?_); (case h => walk_at "look"); (case a => rfl))
  | ((with_reducible refine' y_eq ?s ?_); (case s => rfl))
  | ((with_reducible refine' y_ne ?s ?_); (case s => rfl))
  | ((with_reducible refine' x_rtup ?l ?_); (case l => exact Nat.le_of_ble_eq_true rfl); intro _ _ _ _ _)
  | ((with_reducible refine' x_rlst ?l ?_); (case l => exact Nat.le_of_ble_eq_true rfl); intro _ _ _ _ _)
  | ((with_reducible refine' ite_t ?h ?_); (case h => first | with_reducible rfl | assumption | exact decide_eq_true (by omega) | decide +kernel | rfl))
  | ((with_reducible refine' ite_f ?h ?_); (case h => first | with_reducible rfl | assumption | exact decide_eq_false (by omega) | decide +kernel | rfl))))
def sp_l_cell (K : PySem.W.Frag) : Sp := spCell K
def sp_l_row (K : PySem.W.Frag) : Sp := fun vs H Q _ => ∃ (c : Int) (m : Nat), vs = [.int c, .int (m : Nat), .int 1000000000] ∧ 0 ≤ c ∧ m ≤ 20 ∧ ∀ l (ds : List Nat) H', Same H H' → H l = none → H' l = some (.lst ((ds.map fun (d : Nat) => (d : Int)).map V.int)) → ds.length = m → Q (.ref l) H'
section
variable {P : Program} {w : World} {K : PySem.W.Frag} {mg : Str → Option Value} {base : Heap}
theorem n_l_calls (T : Tx K mg) : Cal P w K mg base 1 d_l_calls ["_law_player_here"] [] spNo := Cal.of T.d_l_calls rfl rfl (fun _ _ _ _ _ _ us hl => match us, hl with | [_], _ => rfl) fun fd F => F.ok sc_l_calls (fun _ _ _ _ h => h.elim) (fun _ _ _ _ _ _ _ _ _ h => h.elim)
theorem ok_l_calls (T : Tx K mg) (k : Nat) (ih : Cal P w K mg base (k + 1) d_l_calls ["_law_player_here"] [] (prevL K k)) {fd : FuncData} (F : FnX K d_l_calls fd) : FnOk P w K mg base CX0 (k + 2) (He.fAd K d_l_calls.at_) fd ["_law_player_here"] (sp_l_calls K k) := by
  refine F.ok sc_l_calls (fun vs H Q E h => ?_) (fun cdv A outer s0 H vs Q E hr h => ?_)
  · obtain ⟨v, p, rfl, _⟩ := h
    rfl
  obtain ⟨v, p, rfl, hv, hok, q⟩ := h
  refine ⟨_, PSs.nox (pss_cons (ps_if (pt_cmpR op_eq (pe_ix ix_tupF (pv 0) pe_int (fun _ _ => rfl)) pe_str (nomark _)) (pss_one (ps_ret pe_int)) pss_nil)
      (pss_cons (ps_if (pt_cmpR op_eq (pe_ix ix_tupF (pv 0) pe_int (fun _ _ => rfl)) pe_str (nomark _)) (pss_one (ps_ret (pe_callB (cr_max rfl) (by rfl) T.f_max (by decide +kernel) (pa_cons (pe_lc (own := [("_law_part", 1)]) (g := gName 1) (tt := tYes) (by rfl) sc_l_calls.nd (pi_tup (pe_ix ix_tupF (pv 0) pe_int (fun _ _ => rfl))) (blkOk_by (own := [("_law_part", 1)]) (N := ["_law_player_here", "_law_part", "_law_pair"]) (sc := defScope s_l_calls) (by decide +kernel)) (fun _ _ _ _ _ => (pg_name (i := 1) sc_l_calls.nd rfl (Or.inl rfl))) (fun _ _ _ _ _ => pts_nil) (fun _ _ _ _ _ => (pe_cal ih (hr.mono (by omega)) rfl T.g_l_calls (pa_cons (pv 1) pa_nil)))) pa_nil)))) pss_nil)
      (pss_one (ps_ret (pe_op op_add pe_int (pe_callB (cr_max rfl) (by rfl) T.f_max (by decide +kernel) (pa_cons (pe_op op_cat (pe_lst (pa_cons pe_int pa_nil)) (pe_lc (own := [("_law_pair", 2)]) (g := gName 2) (tt := tYes) (by rfl) sc_l_calls.nd (pi_tup (pe_ix ix_tupF (pv 0) pe_int (fun _ _ => rfl))) (blkOk_by (own := [("_law_pair", 2)]) (N := ["_law_player_here", "_law_part", "_law_pair"]) (sc := defScope s_l_calls) (by decide +kernel)) (fun _ _ _ _ _ => (pg_name (i := 2) sc_l_calls.nd rfl (Or.inl rfl))) (fun _ _ _ _ _ => pts_nil) (fun _ _ _ _ _ => (pe_cal ih (hr.mono (by omega)) rfl T.g_l_calls (pa_cons (pe_ix ix_tupF (pv 2) pe_int (fun _ _ => rfl)) pa_nil))))) pa_nil))))))), ?_⟩
  cases k with
  | zero =>
    have hv : Rp H v (.tuple [.str "say", .bool p]) := hv
    walk_at "vc"
    exact q _ fun _ _ e => e
  | succ k =>
    rcases p with b | ps | qs
    · have hv : Rp H v (.tuple [.str "say", .bool b]) := hv
      walk_at "vc"
      exact q _ fun _ _ e => e
    · have hv : Rp H v (.tuple [.str "toss", .tuple (ps.map (plD k))]) := hv
      obtain ⟨h1, h2, h3⟩ := hok
      walk_at "vc"
      rename_i u hu
      obtain ⟨a1, x1, rfl, t1, r1⟩ := hu.t_
      have hx1 : x1.length = ps.length := by rw [r1.len, List.length_map]
      refine y_lcT (fun D i v H => ∃ c, (ps.map (clP k))[i]? = some c ∧ v = .int (c : Nat)) (fun D ys i v H H' hD b r => r) t1 (by omega) (fun D i x' H' acc hi hD s1 hacc Q' q' => ?_) mg_name fun D H1 acc hD s1 hacc hla hr1 => ?_
      · obtain ⟨d, hd, hr'⟩ := r1.get' hi
        rw [List.getElem?_map] at hd
        obtain ⟨p', hp', rfl⟩ := Option.map_eq_some_iff.mp hd
        walk_at "vc"
        refine ⟨rfl, ?_⟩
        walk_at "vc"
        exact ⟨x', p', rfl, hr'.same s1, h3 p' (List.mem_of_getElem? hp'), fun H2 s2 => q' _ _ s2 ⟨clP k p', by rw [List.getElem?_map, hp']; rfl, rfl⟩⟩
      have ea := ints_of (by rw [hla, hx1, List.length_map]) hr1
      subst ea
      walk_at "vc"
      refine ⟨D, _, rfl, SqL.of hacc, ?_, fun m hm hy => ?_⟩
      · rw [List.length_map, List.length_map]
        exact List.length_pos_iff.mpr h1
      rw [mx_int hm hy]
      exact q _ s1
    · have hv : Rp H v (.tuple [.str "ask", .str "p", .int 0, .tuple (qs.map fun q => .tuple [.int (q.1 : Nat), plD k q.2])]) := hv
      obtain ⟨h1, h2, h3⟩ := hok
      walk_at "vc"
      rename_i l0 H0 f0 s0' e0 u hu
      obtain ⟨a1, x1, rfl, t1, r1⟩ := hu.t_
      have hx1 : x1.length = qs.length := by rw [r1.len, List.length_map]
      refine y_lcT (fun D i v H => ∃ c, (qs.map fun q => clP k q.2)[i]? = some c ∧ v = .int (c : Nat)) (fun D ys i v H H' hD b r => r) t1 (by omega) (fun D i x' H' acc hi hD s1 hacc Q' q' => ?_) mg_name fun D H1 acc hD s1 hacc hla hr1 => ?_
      · obtain ⟨d, hd, hr'⟩ := r1.get' hi
        rw [List.getElem?_map] at hd
        obtain ⟨p', hp', rfl⟩ := Option.map_eq_some_iff.mp hd
        have hr2 := hr'.same s1
        walk_at "vc"
        refine ⟨rfl, ?_⟩
        walk_at "vc"
        refine y_ix 1 1 hr2 rfl rfl fun v2 g2 => ?_
        exact ⟨v2, p'.2, rfl, g2, h3 p' (List.mem_of_getElem? hp'), fun H2 s2 => q' _ _ s2 ⟨clP k p'.2, by rw [List.getElem?_map, hp']; rfl, rfl⟩⟩
      have ea := ints_of (by rw [hla, hx1, List.length_map]) hr1
      subst ea
      walk_at "vc"
      refine x_cat (s1 _ _ e0) hacc (by rw [List.length_map, List.length_map, List.length_map]; simp; omega) fun p8 H8 f8 s8 e8 => ?_
      walk_at "vc"
      refine ⟨p8, (0 :: qs.map fun q : Nat × Py k => clP k q.2).map fun (c : Nat) => (c : Int), rfl, SqL.of e8, by simp, fun m hm hy => ?_⟩
      rw [mx_int hm hy]
      walk_at "vc"
      have em : (1 : Int) + ((mx (0 :: qs.map fun q : Nat × Py k => clP k q.2) : Nat) : Int) = ((clP (k + 1) (.inr (.inr qs)) : Nat) : Int) := by
        show _ = ((1 + mx (qs.map fun q : Nat × Py k => clP k q.2) : Nat) : Int)
        have : mx (0 :: qs.map fun q : Nat × Py k => clP k q.2) = mx (qs.map fun q : Nat × Py k => clP k q.2) := Nat.zero_max _
        rw [this]
        omega
      show Q (.int ((1 : Int) + ((mx (0 :: qs.map fun q : Nat × Py k => clP k q.2) : Nat) : Int))) H8
      rw [em]
      exact q _ ((s0'.trans s1).trans s8)
theorem c_l_calls (T : Tx K mg) : ∀ k, Cal P w K mg base (k + 2) d_l_calls ["_law_player_here"] [] (sp_l_calls K k)
  | 0 => Cal.of T.d_l_calls rfl rfl (fun _ _ _ _ _ _ us hl => match us, hl with | [_], _ => rfl) fun fd F => ok_l_calls T 0 (n_l_calls T) F
  | k + 1 => Cal.of T.d_l_calls rfl rfl (fun _ _ _ _ _ _ us hl => match us, hl with | [_], _ => rfl) fun fd F => ok_l_calls T (k + 1) (c_l_calls T k) F
theorem sc_l_cell : FnScope ["_law_script", "_law_k"] ["_law_script", "_law_k"] (defScope s_l_cell) := ⟨rfl, rfl, rfl, by decide +kernel, rfl, by decide +kernel, by decide +kernel⟩
theorem sc_l_row : FnScope ["_law_cell_here", "_law_count", "_law_size", "_law_state", "_law_row_here", "_law_k"] ["_law_cell_here", "_law_count", "_law_size"] (defScope s_l_row) := ⟨rfl, rfl, rfl, by decide +kernel, rfl, by decide +kernel, by decide +kernel⟩
theorem ok_l_cell (T : Tx K mg) {fd : FuncData} (F : FnX K d_l_cell fd) : FnOk P w K mg base CX0 1 (He.fAd K d_l_cell.at_) fd ["_law_script", "_law_k"] (sp_l_cell K) := by
  refine F.ok sc_l_cell (fun vs H Q E h => ?_) (fun cdv A outer s0 H vs Q E hr h => ?_)
  · obtain ⟨l, ns, j, rfl, _⟩ := h
    rfl
  obtain ⟨l, ns, j, rfl, hs, q⟩ := h
  refine ⟨_, PSs.nox (pss_cons (ps_if (pt_cmpR op_lt (pv 1) (pe_callB call_len (by rfl) T.f_len PySem.boot_len (pa_cons (pv 0) pa_nil)) (nomark _)) (pss_one (ps_ret (pe_ix ix_seq (pv 0) (pv 1) (fun _ _ => rfl)))) pss_nil)
      (pss_one (ps_ret pe_int))), ?_⟩
  walk_at "vc"
  refine ⟨.ref l, (ns.map V.int).length, rfl, .inl ⟨_, hs, rfl⟩, ?_⟩
  walk_at "vc"
  by_cases hj : j < ns.length
  · refine ite_t (decide_eq_true (by rw [List.length_map]; omega)) ?_
    walk_at "vc"
    exact .inl ⟨l, _, _, _, rfl, rfl, hs, atI_cell hj, q⟩
  · refine ite_f (decide_eq_false (by rw [List.length_map]; omega)) ?_
    walk_at "vc"
    rw [cell_out hj] at q
    exact q
theorem c_l_cell (T : Tx K mg) : Cal P w K mg base 1 d_l_cell ["_law_script", "_law_k"] [] (sp_l_cell K) :=
  Cal.of T.d_l_cell rfl rfl (fun _ _ _ _ _ _ us hl => match us, hl with | [_, _], _ => rfl) fun fd F => ok_l_cell T F
theorem ok_l_row (T : Tx K mg) {fd : FuncData} (F : FnX K d_l_row fd) : FnOk P w K mg base CX0 1 (He.fAd K d_l_row.at_) fd ["_law_cell_here", "_law_count", "_law_size"] (sp_l_row K) := by
  refine F.ok sc_l_row (fun vs H Q E h => ?_) (fun cdv A outer s0 H vs Q E hr h => ?_)
  · obtain ⟨c, m, rfl, _⟩ := h
    rfl
  obtain ⟨c, m, rfl, c0, hm, q⟩ := h
  refine ⟨_, PSs.nox (pss_cons (ps_set (i := 3) sc_l_row.nd rfl (Or.inl rfl) (pv 0))
      (pss_cons (ps_set (i := 4) sc_l_row.nd rfl (Or.inl rfl) (pe_lst pa_nil))
      (pss_cons (ps_for PassesOwn.never rfl (pi_range1 rfl T.f_range (pa_cons (pv 1) pa_nil)) (pg_name (i := 5) sc_l_row.nd rfl (Or.inl rfl)) (pss_one (ps_if (pt_cmpR op_ge (pv 0) (pe_op op_pow pe_int pe_int) (nomark _)) (pss_cons (ps_expr (pe_bmF PySem.F.plainAttrs_list PySem.F.slot_list_append PySem.F.type_list_append mt_append (pv 4) (pa_cons (pe_op op_mod (pe_callTy call_int1 (by rfl) T.f_int (by decide +kernel) (pa_cons (pv 3) pa_nil)) (pv 2)) pa_nil)))
      (pss_one (ps_set (i := 3) sc_l_row.nd rfl (Or.inl rfl) (pe_op op_fdiv (pv 3) (pv 2))))) (pss_cons (ps_set (i := 3) sc_l_row.nd rfl (Or.inl rfl) (pe_op op_mod (pe_op op_add (pe_op op_mul (pv 3) pe_int) pe_int) pe_int))
      (pss_one (ps_expr (pe_bmF PySem.F.plainAttrs_list PySem.F.slot_list_append PySem.F.type_list_append mt_append (pv 4) (pa_cons (pe_op op_mod (pe_op op_mod (pe_callTy call_int1 (by rfl) T.f_int (by decide +kernel) (pa_cons (pe_op op_add (pe_op op_mul (pv 3) pe_int) (pe_op op_mul (pv 5) pe_int)) pa_nil)) pe_int) (pv 2)) pa_nil))))))))
      (pss_one (ps_ret (pv 4)))))), ?_⟩
  walk_at "vc"
  rename_i l H1 f1 s1 e1
  refine y_forI (n := (m : Int)) (by omega) (by omega) (fun i σ' H' => ∃ (st : Int) (z : Option V) (ds : List Nat), σ' = [some (.int c), some (.int (m : Nat)), some (.int 1000000000), some (.int st), some (.ref l), z] ∧ Same H H' ∧ H' l = some (.lst ((ds.map fun (d : Nat) => (d : Int)).map V.int)) ∧ ds.length = i) ?h0 ?hs ?hd (fun Q q => ?ha)
  case h0 => exact ⟨c, none, [], rfl, s1, e1, rfl⟩
  case ha =>
    walk_at "vc"
    exact q
  case hd =>
    rintro σ' H' ⟨st, z, ds, rfl, sH, hl, hd⟩
    walk_at "vc"
    exact q l ds H' sH f1 hl (by simpa using hd)
  rintro i σ' H' hi ⟨st, z, ds, rfl, sH, hl, hd⟩
  have fin : ∀ (a : Int), (ds.map fun (d : Nat) => (d : Int)).map V.int ++ [V.int (a % 1000000000)] = ((ds ++ [(a % 1000000000).toNat]).map fun (d : Nat) => (d : Int)).map V.int := by
    intro a
    have : (((a % 1000000000).toNat : Nat) : Int) = a % 1000000000 := Int.toNat_of_nonneg (Int.emod_nonneg _ (by decide))
    simp [this]
  walk_at "vc"
  refine y_I (show CPow _ _ from ⟨by decide, by decide, by decide⟩) ?_
  walk_at "vc"
  refine ite_c (fun hge => ?_) (fun hlt => ?_)
  · walk_at "vc"
    refine .inl ⟨_, rfl, ?_⟩
    walk_at "vc"
    refine y_I (by decide : (0 : Int) < 1000000000) ?_
    walk_at "vc"
    refine y_append hl (by rw [List.length_map, List.length_map]; omega) fun H2 b2 e2 => ?_
    walk_at "vc"
    refine y_I (show CDiv _ 1000000000 from ⟨by decide, by decide⟩) ?_
    walk_at "vc"
    refine ⟨_, _, ds ++ [(st % 1000000000).toNat], rfl, Same.but sH f1 b2, ?_, by rw [List.length_append, hd]; rfl⟩
    rw [e2, fin]
  · walk_at "vc"
    refine y_I (show CMul _ _ from .inr ⟨by decide, by decide⟩) ?_
    walk_at "vc"
    refine y_I (by decide : (0 : Int) < 2147483647) ?_
    walk_at "vc"
    refine y_I (show CMul _ _ from .inr ⟨by decide, by decide⟩) ?_
    walk_at "vc"
    refine y_I (show CMul _ _ from .inr ⟨by decide, by decide⟩) ?_
    walk_at "vc"
    refine .inl ⟨_, rfl, ?_⟩
    walk_at "vc"
    refine y_I (by decide : (0 : Int) < 2147483647) ?_
    walk_at "vc"
    refine y_I (by decide : (0 : Int) < 1000000000) ?_
    walk_at "vc"
    refine y_append hl (by rw [List.length_map, List.length_map]; omega) fun H2 b2 e2 => ?_
    refine ⟨_, _, ds ++ [((((st * 48271 + 12345) % 2147483647) * 69621 + (i : Int) * 7919) % 2147483647 % 1000000000).toNat], rfl, Same.but sH f1 b2, ?_, by rw [List.length_append, hd]; rfl⟩
    rw [e2, fin]
theorem c_l_row (T : Tx K mg) : Cal P w K mg base 1 d_l_row ["_law_cell_here", "_law_count", "_law_size"] [] (sp_l_row K) :=
  Cal.of T.d_l_row rfl rfl (fun _ _ _ _ _ _ us hl => match us, hl with | [_, _, _], _ => rfl) fun fd F => ok_l_row T F
end
end Tn
set_option Elab.async false
set_option linter.all false
set_option maxRecDepth 100000
set_option maxHeartbeats 8000000
set_option pp.maxSteps 400
namespace Tn
open PySem PySem.Spec L2
local macro_rules | `(tactic| walk_at "tz") => `(tactic| first
  | ((refine' Tz.same ?s); (case s => with_reducible assumption))
  | ((refine' Tz.but ?b ?h ?n); (case b => with_reducible assumption); (case h => walk_at "look"); (case n => (intro o v z; cases z))))
local macro_rules | `(tactic| walk_at "fz") => `(tactic| first
  | ((refine' Fz.same ?s); (case s => with_reducible assumption))
  | ((refine' Fz.but ?b ?h ?n); (case b => with_reducible assumption); (case h => walk_at "look"); (case n => first | exact nf_lst | exact nf_dK | exact nf_ext | assumption)))
local macro_rules | `(tactic| walk_at "look") => `(tactic| first
  | with_reducible assumption
  | ((with_reducible refine' Same.app ?s ?m); (case s => with_reducible assumption); (case m => walk_at "look"))
  | ((with_reducible refine' RR.fz ?z ?m); (case z => walk_at "fz"); (case m => walk_at "look"))
  | ((with_reducible refine' Rp.tz ?z ?m); (case z => walk_at "tz"); (case m => walk_at "look"))
  | ((with_reducible refine' TU.tz ?z ?m); (case z => walk_at "tz"); (case m => walk_at "look"))
  | ((with_reducible refine' RpL.tz ?z ?m); (case z => walk_at "tz"); (case m => walk_at "look"))
  | ((with_reducible refine' GM.fz ?z ?m); (case z => walk_at "fz"); (case m => walk_at "look"))
  | ((with_reducible refine' But.app' ?b ?n ?m); (case b => with_reducible assumption); (case n => first | assumption | (refine Ne.symm ?_; assumption)); (case m => walk_at "look"))
  | ((with_reducible refine' But.app ?b ?l ?d ?m); (case b => with_reducible assumption); (case m => walk_at "look"); (case l => walk_at "look"); (case d => (intro z; cases z))))
local macro_rules | `(tactic| walk_at "rp") => `(tactic| first
  | (with_reducible assumption)
  | walk_at "look"
  | exact Rp.bl _ | exact Rp.int _ | exact Rp.str _ | exact Rp.non
  | ((refine' Rp.tup ?h ?l); (case h => walk_at "look"); (case l => walk_at "rpl")))
local macro_rules | `(tactic| walk_at "rpl") => `(tactic| first
  | exact RpL.nil
  | ((refine' RpL.cons ?h ?l); (case h => walk_at "rp"); (case l => walk_at "rpl")))
local macro_rules | `(tactic| walk_at "vc") => `(tactic| repeat (first
  | with_reducible refine' x_seq ?_
  | with_reducible refine' x_ifS ?_
  | with_reducible refine' x_asg ?_
  | with_reducible refine' x_drop ?_
  | with_reducible refine' x_ret ?_
  | with_reducible refine' x_name ?_
  | with_reducible refine' x_c ?_
  | ((with_reducible refine' x_var ?h ?_); (case h => rfl))
  | with_reducible refine' x_op ?_
  | with_reducible refine' x_un ?_
  | with_reducible refine' x_tup ?_
  | with_reducible refine' x_lst ?_
  | ((with_reducible refine' x_gtup ?h ?l ?_); (case h => walk_at "look"); (case l => rfl))
  | ((with_reducible refine' x_gtup' ?h ?l ?_); (case h => walk_at "look"); (case l => rfl))
  | with_reducible refine' x_gcons ?_
  | with_reducible refine' x_gnil ?_
  | with_reducible refine' x_nil ?_
  | with_reducible refine' x_cons ?_
  | with_reducible refine' x_call ?_
  | with_reducible refine' x_meth ?_
  | ((with_reducible refine' x_methv ?h ?l ?_); (case h => walk_at "look"); (case l => first | rfl | decide +kernel))
  | with_reducible refine' x_make ?_
  | with_reducible refine' x_cb ?_
  | with_reducible refine' x_test ?_
  | with_reducible refine' x_B ?_
  | with_reducible refine' x_and ?_
  | with_reducible refine' x_or ?_
  | with_reducible refine' x_not ?_
  | with_reducible refine' x_if ?_
  | with_reducible refine' x_andV ?_
  | with_reducible refine' x_orV ?_
  | with_reducible refine' x_notV ?_
  | with_reducible refine' x_next ?_
  | with_reducible refine' x_gfldc ?_
  | with_reducible refine' x_bmF ?_
  | with_reducible refine' x_bmF0 ?_
  | ((with_reducible refine' y_tyL ?h ?_); (case h => walk_at "look"))
  | ((with_reducible refine' y_tyD ?h ?_); (case h => walk_at "look"))
  | ((with_reducible refine' y_lenL ?h ?_); (case h => walk_at "look"))
  | ((with_reducible refine' y_lenR ?h ?_); (case h => walk_at "look"))
  | with_reducible refine' x_forT ?_
  | with_reducible refine' x_forL ?_
  | with_reducible refine' x_lcT ?_
  | with_reducible refine' x_lcL ?_
  | ((with_reducible refine' y_tupleL ?h ?_); (case h => walk_at "look"); intro _ _ _ _ _)
  | ((with_reducible refine' y_tupleR ?h ?_); (case h => walk_at "look"))
  | ((with_reducible refine' y_tupleT ?h ?_); (case h => walk_at "look"))
  | with_reducible refine' x_cont ?_
  | with_reducible refine' x_dget ?_
  | with_reducible refine' x_din ?_
  | with_reducible refine' x_dput ?_
  | ((with_reducible refine' x_dnewN ?_); intro _ _ _ _ _)
  | with_reducible refine' x_nget2 ?_
  | with_reducible refine' x_nput ?_
  | with_reducible refine' x_lcN ?_
  | with_reducible refine' x_lcKF ?_
  | with_reducible refine' x_itemsN ?_
  | ((with_reducible refine' x_dnewK ?_); intro _ _ _ _ _)
  | with_reducible refine' x_forRev ?_
  | with_reducible refine' x_sl ?_
  | with_reducible refine' x_nopart ?_
  | with_reducible refine' x_part ?_
  | with_reducible refine' x_partI ?_
  | with_reducible refine' x_revL ?_
  | with_reducible refine' x_sfldc ?_
  | with_reducible refine' x_bl ?_
  | ((with_reducible refine' x_fldc ?h ?l ?_); (case h => walk_at "look"); (case l => first | rfl | decide +kernel))
  | ((with_reducible refine' x_setc ?h ?l ?_); (case h => walk_at "look"); (case l => exact Nat.le_of_ble_eq_true rfl); intro _ _ _)
  | ((with_reducible refine' y_num ?h ?_); (case h => walk_at "look"))
  | ((with_reducible refine' y_den ?h ?_); (case h => walk_at "look"))
  | with_reducible refine' y_I0 ?_
  | ((with_reducible refine' y_ixS ?h ?e ?a ?_); (case h => walk_at "look"); (case e => rfl); (case a => rfl))
  | ((with_reducible refine' y_ixI ?h ?e ?a ?_); (case h => walk_at "look"); (case e => rfl); (case a => rfl))
  | ((with_reducible refine' y_ixB ?h ?e ?a ?_); (case h => walk_at "look"); (case e => rfl); (case a => rfl))
  | ((with_reducible refine' y_ixR ?h ?e ?a ?_); (case h => walk_at "look"); (case e => rfl); (case a => rfl); intro _ _)
  | ((with_reducible refine' y_ixT ?h ?a ?_); (case h => walk_at "look"); (case a => rfl))
  | ((with_reducible refine' y_eq ?s ?_); (case s => rfl))
  | ((with_reducible refine' y_ne ?s ?_); (case s => rfl))
  | ((with_reducible refine' x_rtup ?l ?_); (case l => exact Nat.le_of_ble_eq_true rfl); intro _ _ _ _ _)
  | ((with_reducible refine' x_rlst ?l ?_); (case l => exact Nat.le_of_ble_eq_true rfl); intro _ _ _ _ _)
  | ((with_reducible refine' ite_t ?h ?_); (case h => first | with_reducible rfl | assumption | exact decide_eq_true (by omega) | decide +kernel | rfl))
  | ((with_reducible refine' ite_f ?h ?_); (case h => first | with_reducible rfl | assumption | exact decide_eq_false (by omega) | decide +kernel | rfl))))
/-- a list of players read off a list of their objects -/
theorem gather {H : Hp} {d : Nat} : ∀ {acc : List V}, (∀ y ∈ acc, ∃ p : Py d, Rp H y (plD d p) ∧ okP d p) → ∃ ps : List (Py d), ps.length = acc.length ∧ RpL H acc (ps.map (plD d)) ∧ ∀ p ∈ ps, okP d p
  | [], _ => ⟨[], rfl, .nil, fun _ h => by cases h⟩
  | y :: acc, h => by
    obtain ⟨p, r, o⟩ := h y (List.mem_cons_self ..)
    obtain ⟨ps, e, rs, os⟩ := gather (acc := acc) fun z hz => h z (List.mem_cons_of_mem _ hz)
    refine ⟨p :: ps, by simp [e], .cons r rs, fun q hq => ?_⟩
    rcases List.mem_cons.mp hq with rfl | hq
    · exact o
    · exact os q hq
theorem cut_nat {r : Int} {ds : List Nat} (hd : ds.length = 3) : ∃ es : List Nat, cutV ((ds.map fun (d : Nat) => (d : Int)).map V.int) none (some (1 + r % 3)) = (es.map fun (d : Nat) => (d : Int)).map V.int ∧ es.length ≤ 3 ∧ es ≠ [] := by
  have h0 := Int.emod_nonneg r (show (3 : Int) ≠ 0 by decide)
  have h1 := Int.emod_lt_of_pos r (show (0 : Int) < 3 by decide)
  generalize r % 3 = t at h0 h1 ⊢
  obtain ⟨m, rfl⟩ := Int.eq_ofNat_of_zero_le h0
  refine ⟨ds.take (1 + m), ?_, by rw [List.length_take]; omega, fun h => ?_⟩
  · rw [show (1 + (m : Int)) = ((1 + m : Nat) : Int) by omega]
    unfold cutV
    rw [HT.sIx_nat, HT.sIx_none, List.drop_zero, List.length_map, List.length_map, hd, List.map_take, List.map_take, show min (1 + m) 3 - 0 = 1 + m by omega]
  · have : (ds.take (1 + m)).length = 0 := by rw [h]; rfl
    rw [List.length_take, hd] at this
    omega
theorem at_nat {ds : List Nat} {j : Nat} (h : j < ds.length) : ∃ m : Nat, atI ((ds.map fun (d : Nat) => (d : Int)).map V.int) ((j : Nat) : Int) = some (V.int (m : Nat)) := by
  refine ⟨ds[j], ?_⟩
  rw [atI_cell (by rw [List.length_map]; exact h)]
  simp [L2.cellOf, h]
theorem free_of {H H' : Hp} {a : Addr} (s : Same H H') (h : H' a = none) : H a = none := by
  cases e : H a with
  | none => rfl
  | some o => rw [s _ _ e] at h; cases h
abbrev qD (d : Nat) (q : Nat × Py d) : PyData := .tuple [.int (q.1 : Nat), plD d q.2]
def sp_l_player (K : PySem.W.Frag) (d : Nat) : Sp := fun vs H Q _ => ∃ (c : Int) (g : V) (n s : Nat), vs = [.int c, g, .int (d : Nat)] ∧ 0 ≤ c ∧ n ≤ 8 ∧ Rp H g (gProcs n s) ∧ ∀ v H' (p : Py d), Same H H' → Rp H' v (plD d p) → okP d p → Q v H'
def spPl (K : PySem.W.Frag) : Nat → Sp
  | 0 => spNo
  | d + 1 => sp_l_player K d
theorem sc_l_player : FnScope ["_law_cell_here", "_law_procs", "_law_deep", "_law_kind", "_law_rest", "_law_digits", "_law_proc", "_law_parts", "_law_answer", "_law_digit"] ["_law_cell_here", "_law_procs", "_law_deep"] (defScope s_l_player) := ⟨rfl, rfl, rfl, by decide +kernel, rfl, by decide +kernel, by decide +kernel⟩
section
variable {P : Program} {w : World} {K : PySem.W.Frag} {mg : Str → Option Value} {base : Heap}
theorem n_l_player (T : Tx K mg) : Cal P w K mg base 1 d_l_player ["_law_cell_here", "_law_procs", "_law_deep"] [] spNo := Cal.of T.d_l_player rfl rfl (fun _ _ _ _ _ _ us hl => match us, hl with | [_, _, _], _ => rfl) fun fd F => F.ok sc_l_player (fun _ _ _ _ h => h.elim) (fun _ _ _ _ _ _ _ _ _ h => h.elim)
theorem ok_l_player (T : Tx K mg) (d : Nat) (ih : Cal P w K mg base (d + 1) d_l_player ["_law_cell_here", "_law_procs", "_law_deep"] [] (spPl K d)) {fd : FuncData} (F : FnX K d_l_player fd) : FnOk P w K mg base CX0 (d + 2) (He.fAd K d_l_player.at_) fd ["_law_cell_here", "_law_procs", "_law_deep"] (sp_l_player K d) := by
  refine F.ok sc_l_player (fun vs H Q E h => ?_) (fun cdv A outer s0 H vs Q E hr h => ?_)
  · obtain ⟨c, g, n, s, rfl, _⟩ := h
    rfl
  obtain ⟨c, g, n, s, rfl, c0, hn, hg, q⟩ := h
  refine ⟨_, PSs.nox (pss_cons (ps_set (i := 3) sc_l_player.nd rfl (Or.inl rfl) (pe_op op_mod (pe_callTy call_int1 (by rfl) T.f_int (by decide +kernel) (pa_cons (pv 0) pa_nil)) pe_int))
      (pss_cons (ps_set (i := 4) sc_l_player.nd rfl (Or.inl rfl) (pe_op op_fdiv (pe_callTy call_int1 (by rfl) T.f_int (by decide +kernel) (pa_cons (pv 0) pa_nil)) pe_int))
      (pss_cons (ps_if (PW.pt (pw_or (pt_cmpR op_eq (pv 2) pe_int (nomark _)) (pw_or1 (pt_cmpR op_eq (pv 3) pe_int (nomark _))))) (pss_one (ps_ret (pe_tupF (pa_cons pe_str (pa_cons (pe_cmpR op_eq (pe_op op_mod (pv 4) pe_int) pe_int (nomark _)) pa_nil))))) pss_nil)
      (pss_cons (ps_if (pt_cmpR op_eq (pv 3) pe_int (nomark _)) (pss_cons (ps_set (i := 5) sc_l_player.nd rfl (Or.inl rfl) (pe_cal (c_l_row T) (hr.mono (by omega)) rfl T.g_l_row (pa_cons (pv 4) (pa_cons pe_int (pa_cons (pe_op op_pow pe_int pe_int) pa_nil)))))
      (pss_one (ps_ret (pe_tupF (pa_cons pe_str (pa_cons (pe_callTy call_tupleF (by rfl) T.f_tuple (by decide +kernel) (pa_cons (pe_lc (own := [("_law_digit", 9)]) (g := gName 9) (tt := tYes) (by rfl) sc_l_player.nd (pi_list (pe_slice sl_list (pv 5) po_none (po_some (pe_op op_add pe_int (pe_op op_mod (pv 4) pe_int))))) (blkOk_by (own := [("_law_digit", 9)]) (N := ["_law_cell_here", "_law_procs", "_law_deep", "_law_kind", "_law_rest", "_law_digits", "_law_proc", "_law_parts", "_law_answer", "_law_digit"]) (sc := defScope s_l_player) (by decide +kernel)) (fun _ _ _ _ _ => (pg_name (i := 9) sc_l_player.nd rfl (Or.inl rfl))) (fun _ _ _ _ _ => pts_nil) (fun _ _ _ _ _ => (pe_cal ih (hr.mono (by omega)) rfl T.g_l_player (pa_cons (pv 9) (pa_cons (pv 1) (pa_cons (pe_op op_sub (pv 2) pe_int) pa_nil)))))) pa_nil)) pa_nil)))))) pss_nil)
      (pss_cons (ps_set (i := 6) sc_l_player.nd rfl (Or.inl rfl) (pe_ix ix_tupF (pv 1) (pe_op op_mod (pv 4) (pe_callB call_lenF (by rfl) T.f_len PySem.boot_len (pa_cons (pv 1) pa_nil))) (fun _ _ => rfl)))
      (pss_cons (ps_set (i := 5) sc_l_player.nd rfl (Or.inl rfl) (pe_cal (c_l_row T) (hr.mono (by omega)) rfl T.g_l_row (pa_cons (pe_op op_fdiv (pv 4) pe_int) (pa_cons pe_int (pa_cons (pe_op op_pow pe_int pe_int) pa_nil)))))
      (pss_cons (ps_set (i := 7) sc_l_player.nd rfl (Or.inl rfl) (pe_lst pa_nil))
      (pss_cons (ps_for PassesOwn.never rfl (pi_range1 rfl T.f_range (pa_cons (pe_ix ix_tupF (pv 6) pe_int (fun _ _ => rfl)) pa_nil)) (pg_name (i := 8) sc_l_player.nd rfl (Or.inl rfl)) (pss_one (ps_if (pt_cmpR op_ne (pe_op op_mod (pe_ix ix_seq (pv 5) (pv 8) (fun _ _ => rfl)) pe_int) pe_int (nomark _)) (pss_one (ps_expr (pe_bmF PySem.F.plainAttrs_list PySem.F.slot_list_append PySem.F.type_list_append mt_append (pv 7) (pa_cons (pe_tupF (pa_cons (pv 8) (pa_cons (pe_cal ih (hr.mono (by omega)) rfl T.g_l_player (pa_cons (pe_op op_fdiv (pe_ix ix_seq (pv 5) (pv 8) (fun _ _ => rfl)) pe_int) (pa_cons (pv 1) (pa_cons (pe_op op_sub (pv 2) pe_int) pa_nil)))) pa_nil))) pa_nil)))) pss_nil)))
      (pss_one (ps_ret (pe_tupF (pa_cons pe_str (pa_cons (pe_ix ix_tupF (pv 6) pe_int (fun _ _ => rfl)) (pa_cons (pe_op op_mod (pe_ix ix_seq (pv 5) pe_int (fun _ _ => rfl)) (pe_ix ix_tupF (pv 6) pe_int (fun _ _ => rfl))) (pa_cons (pe_callTy call_tupleF (by rfl) T.f_tuple (by decide +kernel) (pa_cons (pv 7) pa_nil)) pa_nil))))))))))))))), ?_⟩
  walk_at "vc"
  refine .inl ⟨_, rfl, ?_⟩
  walk_at "vc"
  refine y_I (by decide : (0 : Int) < 9) ?_
  walk_at "vc"
  refine .inl ⟨_, rfl, ?_⟩
  walk_at "vc"
  refine y_I (show CDiv _ 9 from ⟨by decide, by decide⟩) ?_
  walk_at "vc"
  have hr0 : 0 ≤ c / 9 := Int.ediv_nonneg c0 (by decide)
  generalize c / 9 = r at hr0 ⊢
  generalize c % 9 = kd
  have say : ∀ {H : Hp} {σ : L2.St} {D : Ends}, True := fun {_ _ _} => trivial
  cases d with
  | zero =>
    refine ite_t rfl ?_
    walk_at "vc"
    refine y_I (by decide : (0 : Int) < 2) ?_
    walk_at "vc"
    rename_i l H1 f1 s1 e1
    refine q _ _ (decide (V.int (r % 2) = V.int 1)) s1 ?_ trivial
    show Rp H1 (.ref l) (.tuple [.str "say", .bool _])
    walk_at "rp"
  | succ d =>
    refine ite_f (by simp; omega) ?_
    walk_at "vc"
    refine ite_c (fun hk => ?_) (fun hk => ?_)
    · walk_at "vc"
      refine y_I (by decide : (0 : Int) < 2) ?_
      walk_at "vc"
      rename_i l H1 f1 s1 e1
      refine q _ _ (.inl (decide (V.int (r % 2) = V.int 1))) s1 ?_ trivial
      show Rp H1 (.ref l) (.tuple [.str "say", .bool _])
      walk_at "rp"
    walk_at "vc"
    refine ite_c (fun hk1 => ?_) (fun hk1 => ?_)
    · walk_at "vc"
      refine y_I (show CPow _ _ from ⟨by decide, by decide, by decide⟩) ?_
      walk_at "vc"
      refine ⟨r, 3, rfl, hr0, by decide, fun l ds H1 s1 f1 e1 hd => ?_⟩
      walk_at "vc"
      refine y_I (by decide : (0 : Int) < 3) ?_
      walk_at "vc"
      obtain ⟨es, ee, hl3, hne⟩ := cut_nat (r := r) hd
      refine ⟨l, _, rfl, SqL.of e1, fun p2 f2 => ?_⟩
      rw [ee]
      have s2 : Same H1 (upd H1 p2 (.lst ((es.map fun (d : Nat) => (d : Int)).map V.int))) := Same.new f2
      have e2 : upd H1 p2 (.lst ((es.map fun (d : Nat) => (d : Int)).map V.int)) p2 = some (.lst ((es.map fun (d : Nat) => (d : Int)).map V.int)) := upd_same
      generalize upd H1 p2 (.lst ((es.map fun (d : Nat) => (d : Int)).map V.int)) = H2 at s2 e2 ⊢
      have hg2 := hg.same (s1.trans s2)
      refine y_lcL (fun D i v H => ∃ p : Py d, Rp H v (plD d p) ∧ okP d p) (fun D ys i v H H' hD b ⟨p, r, o⟩ => ⟨p, r.tz (Tz.but b hD fun o v z => by cases z), o⟩) e2 (by rw [List.length_map, List.length_map]; omega) (fun D i x' H' acc hi hD s3 hacc Q' q' => ?_) mg_name fun D H3 acc hD s3 hacc hla hr1 => ?_
      · rw [List.getElem?_map, List.getElem?_map] at hi
        obtain ⟨xi, hxi, rfl⟩ := Option.map_eq_some_iff.mp hi
        obtain ⟨xn, hxn, rfl⟩ := Option.map_eq_some_iff.mp hxi
        walk_at "vc"
        refine ⟨rfl, ?_⟩
        walk_at "vc"
        exact ⟨(xn : Nat), g, n, s, (congrArg (fun z => [V.int (xn : Nat), g, V.int z]) (show ((d + 1 : Nat) : Int) - 1 = (d : Int) by omega)), by omega, hn, hg2.same s3, fun v H' p s4 r4 o4 => q' _ _ s4 ⟨p, r4, o4⟩⟩
      obtain ⟨ps, hps, rps, ops⟩ := gather (H := H3) (d := d) (acc := acc) fun y hy => by
        obtain ⟨i, hi⟩ := List.getElem?_of_mem hy
        exact hr1 i y hi
      walk_at "vc"
      rename_i l4 H4 f4 s4 t4 l5 H5 f5 s5 t5
      have hpl : ps.length = es.length := by rw [hps, hla, List.length_map, List.length_map]
      refine q _ _ (.inr (.inl ps)) ((((s1.trans s2).trans s3).trans s4).trans s5) ?_ ⟨fun h => ?_, by omega, ops⟩
      · show Rp H5 (.ref l5) (.tuple [.str "toss", .tuple (ps.map (plD d))])
        have rr : Rp H4 (.ref l4) (.tuple (ps.map (plD d))) := .tup t4 (rps.same s4)
        have rr5 := rr.same s5
        walk_at "rp"
      · rw [h] at hpl
        exact hne (List.length_eq_zero_iff.mp hpl.symm)
    · walk_at "vc"
      refine y_I (show (0 : Int) < _ from Int.zero_lt_one) ?_
      walk_at "vc"
      refine y_ix _ 0 hg (show r % 1 = 0 from Int.emod_one r) rfl fun pr gr => ?_
      walk_at "vc"
      refine y_I (show CDiv _ 2 from ⟨by decide, by decide⟩) ?_
      walk_at "vc"
      refine y_I (show CPow _ _ from ⟨by decide, by decide, by decide⟩) ?_
      walk_at "vc"
      refine ⟨r / 2, 9, rfl, Int.ediv_nonneg hr0 (by decide), by decide, fun l ds H1 s1 f1 e1 hd => ?_⟩
      walk_at "vc"
      rename_i l0 H2 f2 s2 e2
      have s02 := s1.trans s2
      refine y_forI (n := (n : Int)) (by omega) (by omega) (fun i σ' H' => ∃ (z : Option V) (qs : List (Nat × Py d)) (ys : List V), σ' = [some (.int c), some g, some (.int ((d + 1 : Nat) : Int)), some (.int kd), some (.int r), some (.ref l), some pr, some (.ref l0), z, none] ∧ Same H H' ∧ H' l = some (.lst ((ds.map fun (d : Nat) => (d : Int)).map V.int)) ∧ H' l0 = some (.lst ys) ∧ RpL H' ys (qs.map (qD d)) ∧ qs.length ≤ i ∧ (qs.map (·.1)).Nodup ∧ (∀ q ∈ qs, q.1 < i) ∧ ∀ q ∈ qs, okP d q.2) ?h0 ?hs ?hd (fun Q q => ?ha)
      case h0 => exact ⟨none, [], [], rfl, s02, s2 _ _ e1, e2, .nil, Nat.le_refl _, List.nodup_nil, (fun _ h => by cases h), fun _ h => by cases h⟩
      case ha =>
        walk_at "vc"
        exact q
      case hs =>
        rintro i σ' H' hi ⟨z, qs, ys, rfl, sH, hl, hl0, ry, hlen, hnd, hlt, hok⟩
        obtain ⟨m, hm⟩ := at_nat (j := i) (ds := ds) (by omega)
        walk_at "vc"
        refine .inl ⟨l, _, _, _, rfl, rfl, SqL.of hl, hm, ?_⟩
        walk_at "vc"
        refine y_I (by decide : (0 : Int) < 7) ?_
        walk_at "vc"
        refine ite_c (fun h7 => ?_) (fun h7 => ?_)
        · walk_at "vc"
          refine .inl ⟨l, _, _, _, rfl, rfl, SqL.of hl, hm, ?_⟩
          walk_at "vc"
          refine y_I (show CDiv _ 7 from ⟨by decide, by decide⟩) ?_
          walk_at "vc"
          refine ⟨(m : Int) / 7, g, n, s, (congrArg (fun z => [V.int ((m : Int) / 7), g, V.int z]) (show ((d + 1 : Nat) : Int) - 1 = (d : Int) by omega)), by omega, hn, hg.same sH, fun v H3 p s3 r3 o3 => ?_⟩
          walk_at "vc"
          rename_i l5 H5 f5 s5 t5
          have s35 := s3.trans s5
          refine y_append (s35 _ _ hl0) (by have := ry.len; rw [List.length_map] at this; omega) fun H6 b6 e6 => ?_
          walk_at "vc"
          have h5 := s35 _ _ hl0
          refine ⟨some (.int (i : Nat)), qs ++ [(i, p)], ys ++ [.ref l5], rfl, Same.but (sH.trans s35) (free_of s1 f2) b6, ?_, e6, ?_, by rw [List.length_append]; exact Nat.add_le_add_right hlen 1, ?_, ?_, ?_⟩
          · refine But.app' b6 (fun e => ?_) (s35 _ _ hl)
            rw [e, f2] at e1
            cases e1
          · rw [List.map_append]
            refine RpL.tz (Tz.but b6 h5 fun o v z => by cases z) (RpL.app (ry.same s35) (.one ?_))
            have r5 := r3.same s5
            show Rp H5 (.ref l5) (.tuple [.int (i : Nat), plD d p])
            walk_at "rp"
          · rw [List.map_append]
            refine List.nodup_append.mpr ⟨hnd, by simp, fun a ha b hb e => ?_⟩
            obtain ⟨q1, hq1, rfl⟩ := List.mem_map.mp ha
            have := hlt q1 hq1
            simp at hb
            omega
          · intro q1 hq1
            rcases List.mem_append.mp hq1 with h | h
            · exact Nat.lt_succ_of_lt (hlt q1 h)
            · rw [List.mem_singleton.mp h]; exact Nat.lt_succ_self i
          · intro q1 hq1
            rcases List.mem_append.mp hq1 with h | h
            · exact hok q1 h
            · rw [List.mem_singleton.mp h]; exact o3
        · walk_at "vc"
          exact ⟨some (.int (i : Nat)), qs, ys, rfl, sH, hl, hl0, ry, by omega, hnd, fun q hq => Nat.lt_succ_of_lt (hlt q hq), hok⟩
      case hd =>
        rintro σ' H' ⟨z, qs, ys, rfl, sH, hl, hl0, ry, hlen, hnd, hlt, hok⟩
        obtain ⟨m, hm⟩ := at_nat (j := 8) (ds := ds) (by omega)
        have gr2 := gr.same sH
        walk_at "vc"
        refine .inl ⟨l, _, _, _, rfl, rfl, SqL.of hl, hm, ?_⟩
        walk_at "vc"
        refine y_I (by decide : (0 : Int) < 1) ?_
        rw [Int.emod_one]
        walk_at "vc"
        rename_i l4 H4 f4 s4 t4 l5 H5 f5 s5 t5
        refine q _ _ (.inr (.inr qs)) ((sH.trans s4).trans s5) ?_ ⟨by omega, hnd, hok⟩
        show Rp H5 (.ref l5) (.tuple [.str "ask", .str "p", .int 0, .tuple (qs.map (qD d))])
        have rr : Rp H4 (.ref l4) (.tuple (qs.map (qD d))) := .tup t4 (ry.same s4)
        have rr5 := rr.same s5
        walk_at "rp"
theorem c_l_player (T : Tx K mg) : ∀ d, Cal P w K mg base (d + 2) d_l_player ["_law_cell_here", "_law_procs", "_law_deep"] [] (sp_l_player K d)
  | 0 => Cal.of T.d_l_player rfl rfl (fun _ _ _ _ _ _ us hl => match us, hl with | [_, _, _], _ => rfl) fun fd F => ok_l_player T 0 (n_l_player T) F
  | d + 1 => Cal.of T.d_l_player rfl rfl (fun _ _ _ _ _ _ us hl => match us, hl with | [_, _, _], _ => rfl) fun fd F => ok_l_player T (d + 1) (c_l_player T d) F
end
end Tn
set_option Elab.async false
set_option linter.all false
set_option maxRecDepth 100000
set_option maxHeartbeats 8000000
set_option pp.maxSteps 400
namespace Tn
open PySem PySem.Spec L2
local macro_rules | `(tactic| walk_at "tz") => `(tactic| first
  | ((refine' Tz.same ?s); (case s => with_reducible assumption))
  | ((refine' Tz.but ?b ?h ?n); (case b => with_reducible assumption); (case h => walk_at "look"); (case n => (intro o v z; cases z))))
local macro_rules | `(tactic| walk_at "fz") => `(tactic| first
  | ((refine' Fz.same ?s); (case s => with_reducible assumption))
  | ((refine' Fz.but ?b ?h ?n); (case b => with_reducible assumption); (case h => walk_at "look"); (case n => first | exact nf_lst | exact nf_dK | exact nf_ext | assumption)))
local macro_rules | `(tactic| walk_at "look") => `(tactic| first
  | with_reducible assumption
  | ((with_reducible refine' Same.app ?s ?m); (case s => with_reducible assumption); (case m => walk_at "look"))
  | ((with_reducible refine' RR.fz ?z ?m); (case z => walk_at "fz"); (case m => walk_at "look"))
  | ((with_reducible refine' Rp.tz ?z ?m); (case z => walk_at "tz"); (case m => walk_at "look"))
  | ((with_reducible refine' TU.tz ?z ?m); (case z => walk_at "tz"); (case m => walk_at "look"))
  | ((with_reducible refine' RpL.tz ?z ?m); (case z => walk_at "tz"); (case m => walk_at "look"))
  | ((with_reducible refine' GM.fz ?z ?m); (case z => walk_at "fz"); (case m => walk_at "look"))
  | ((with_reducible refine' But.app' ?b ?n ?m); (case b => with_reducible assumption); (case n => first | assumption | (refine Ne.symm ?_; assumption)); (case m => walk_at "look"))
  | ((with_reducible refine' But.app ?b ?l ?d ?m); (case b => with_reducible assumption); (case m => walk_at "look"); (case l => walk_at "look"); (case d => (intro z; cases z))))
local macro_rules | `(tactic| walk_at "rp") => `(tactic| first
  | (with_reducible assumption)
  | walk_at "look"
  | exact Rp.bl _ | exact Rp.int _ | exact Rp.str _ | exact Rp.non
  | ((refine' Rp.tup ?h ?l); (case h => walk_at "look"); (case l => walk_at "rpl")))
local macro_rules | `(tactic| walk_at "rpl") => `(tactic| first
  | exact RpL.nil
  | ((refine' RpL.cons ?h ?l); (case h => walk_at "rp"); (case l => walk_at "rpl")))
local macro_rules | `(tactic| walk_at "vc") => `(tactic| repeat (first
  | with_reducible refine' x_seq ?_
  | with_reducible refine' x_ifS ?_
  | with_reducible refine' x_asg ?_
  | with_reducible refine' x_drop ?_
  | with_reducible refine' x_ret ?_
  | with_reducible refine' x_name ?_
  | with_reducible refine' x_c ?_
  | ((with_reducible refine' x_var ?h ?_); (case h => rfl))
  | with_reducible refine' x_op ?_
  | with_reducible refine' x_un ?_
  | with_reducible refine' x_tup ?_
  | with_reducible refine' x_lst ?_
  | ((with_reducible refine' x_gtup ?h ?l ?_); (case h => walk_at "look"); (case l => rfl))
  | ((with_reducible refine' x_gtup' ?h ?l ?_); (case h => walk_at "look"); (case l => rfl))
  | with_reducible refine' x_gcons ?_
  | with_reducible refine' x_gnil ?_
  | with_reducible refine' x_nil ?_
  | with_reducible refine' x_cons ?_
  | with_reducible refine' x_call ?_
  | with_reducible refine' x_meth ?_
  | ((with_reducible refine' x_methv ?h ?l ?_); (case h => walk_at "look"); (case l => first | rfl | decide +kernel))
  | with_reducible refine' x_make ?_
  | with_reducible refine' x_cb ?_
  | with_reducible refine' x_test ?_
  | with_reducible refine' x_B ?_
  | with_reducible refine' x_and ?_
  | with_reducible refine' x_or ?_
  | with_reducible refine' x_not ?_
  | with_reducible refine' x_if ?_
  | with_reducible refine' x_andV ?_
  | with_reducible refine' x_orV ?_
  | with_reducible refine' x_notV ?_
  | with_reducible refine' x_next ?_
  | with_reducible refine' x_gfldc ?_
  | with_reducible refine' x_bmF ?_
  | with_reducible refine' x_bmF0 ?_
  | ((with_reducible refine' y_tyL ?h ?_); (case h => walk_at "look"))
  | ((with_reducible refine' y_tyD ?h ?_); (case h => walk_at "look"))
  | ((with_reducible refine' y_lenL ?h ?_); (case h => walk_at "look"))
  | ((with_reducible refine' y_lenR ?h ?_); (case h => walk_at "look"))
  | with_reducible refine' x_forT ?_
  | with_reducible refine' x_forL ?_
  | with_reducible refine' x_lcT ?_
  | with_reducible refine' x_lcL ?_
  | ((with_reducible refine' y_tupleL ?h ?_); (case h => walk_at "look"); intro _ _ _ _ _)
  | ((with_reducible refine' y_tupleR ?h ?_); (case h => walk_at "look"))
  | ((with_reducible refine' y_tupleT ?h ?_); (case h => walk_at "look"))
  | with_reducible refine' x_cont ?_
  | with_reducible refine' x_dget ?_
  | with_reducible refine' x_din ?_
  | with_reducible refine' x_dput ?_
  | ((with_reducible refine' x_dnewN ?_); intro _ _ _ _ _)
  | with_reducible refine' x_nget2 ?_
  | with_reducible refine' x_nput ?_
  | with_reducible refine' x_lcN ?_
  | with_reducible refine' x_lcKF ?_
  | with_reducible refine' x_itemsN ?_
  | ((with_reducible refine' x_dnewK ?_); intro _ _ _ _ _)
  | with_reducible refine' x_forRev ?_
  | with_reducible refine' x_sl ?_
  | with_reducible refine' x_nopart ?_
  | with_reducible refine' x_part ?_
  | with_reducible refine' x_partI ?_
  | with_reducible refine' x_revL ?_
  | with_reducible refine' x_sfldc ?_
  | with_reducible refine' x_bl ?_
  | ((with_reducible refine' x_fldc ?h ?l ?_); (case h => walk_at "look"); (case l => first | rfl | decide +kernel))
  | ((with_reducible refine' x_setc ?h ?l ?_); (case h => walk_at "look"); (case l => exact Nat.le_of_ble_eq_true rfl); intro _ _ _)
  | ((with_reducible refine' y_num ?h ?_); (case h => walk_at "look"))
  | ((with_reducible refine' y_den ?h ?_); (case h => walk_at "look"))
  | with_reducible refine' y_I0 ?_
  | ((with_reducible refine' y_ixS ?h ?e ?a ?_); (case h => walk_at "look"); (case e => rfl); (case a => rfl))
  | ((with_reducible refine' y_ixI ?h ?e ?a ?_); (case h => walk_at "look"); (case e => rfl); (case a => rfl))
  | ((with_reducible refine' y_ixB ?h ?e ?a ?_); (case h => walk_at "look"); (case e => rfl); (case a => rfl))
  | ((with_reducible refine' y_ixR ?h ?e ?a ?_); (case h => walk_at "look"); (case e => rfl); (case a => rfl); intro _ _)
  | ((with_reducible refine' y_ixT ?h ?a ?_); (case h => walk_at "look"); (case a => rfl))
  | ((with_reducible refine' y_eq ?s ?_); (case s => rfl))
  | ((with_reducible refine' y_ne ?s ?_); (case s => rfl))
  | ((with_reducible refine' x_rtup ?l ?_); (case l => exact Nat.le_of_ble_eq_true rfl); intro _ _ _ _ _)
  | ((with_reducible refine' x_rlst ?l ?_); (case l => exact Nat.le_of_ble_eq_true rfl); intro _ _ _ _ _)
  | ((with_reducible refine' ite_t ?h ?_); (case h => first | with_reducible rfl | assumption | exact decide_eq_true (by omega) | decide +kernel | rfl))
  | ((with_reducible refine' ite_f ?h ?_); (case h => first | with_reducible rfl | assumption | exact decide_eq_false (by omega) | decide +kernel | rfl))))
def sayP : (k : Nat) → Bool → Py k
  | 0, b => b
  | _ + 1, b => .inl b
theorem plD_say : ∀ (k : Nat) (b : Bool), plD k (sayP k b) = .tuple [.str "say", .bool b]
  | 0, _ => rfl
  | _ + 1, _ => rfl
/-- the finder, k calls left -/
def finM (n : Nat) : (k : Nat) → List Nat → Py k
  | 0, _ => false
  | k + 1, seen => .inr (.inr ((List.range n).map fun a => (a, if a ∈ seen then sayP k true else finM n k (seen ++ [a]))))
theorem inV_nat (i : Nat) : ∀ seen : List Nat, inV (.int (i : Nat)) (seen.map fun a => V.int (a : Nat)) = decide (i ∈ seen)
  | [] => rfl
  | a :: seen => by
    have ih := inV_nat i seen
    unfold inV at ih ⊢
    rw [List.map_cons, List.any_cons, ih]
    have e : eqV (.int (a : Nat)) (.int (i : Nat)) = decide (i = a) := by
      show (((a : Nat) : Int) == ((i : Nat) : Int)) = _
      rw [Bool.eq_iff_iff, beq_iff_eq, decide_eq_true_iff]
      omega
    rw [e]
    simp
def sp_l_finder (K : PySem.W.Frag) (k : Nat) : Sp := fun vs H Q _ => ∃ (n c : Nat) (l : Addr) (seen : List Nat), vs = [.int (n : Nat), .int (c : Nat), .ref l] ∧ H l = some (.lst (seen.map fun a => V.int (a : Nat))) ∧ seen.length + k = c ∧ n ≤ 8 ∧ c ≤ 8 ∧ ∀ v H', Same H H' → Rp H' v (plD k (finM n k seen)) → Q v H'
def spFi (K : PySem.W.Frag) : Nat → Sp
  | 0 => spNo
  | k + 1 => sp_l_finder K k
theorem sc_l_finder : FnScope ["_law_count", "_law_calls_here", "_law_seen", "_law_parts", "_law_answer"] ["_law_count", "_law_calls_here", "_law_seen"] (defScope s_l_finder) := ⟨rfl, rfl, rfl, by decide +kernel, rfl, by decide +kernel, by decide +kernel⟩
section
variable {P : Program} {w : World} {K : PySem.W.Frag} {mg : Str → Option Value} {base : Heap}
theorem n_l_finder (T : Tx K mg) : Cal P w K mg base 1 d_l_finder ["_law_count", "_law_calls_here", "_law_seen"] [] spNo := Cal.of T.d_l_finder rfl rfl (fun _ _ _ _ _ _ us hl => match us, hl with | [_, _, _], _ => rfl) fun fd F => F.ok sc_l_finder (fun _ _ _ _ h => h.elim) (fun _ _ _ _ _ _ _ _ _ h => h.elim)
theorem ok_l_finder (T : Tx K mg) (k : Nat) (ih : Cal P w K mg base (k + 1) d_l_finder ["_law_count", "_law_calls_here", "_law_seen"] [] (spFi K k)) {fd : FuncData} (F : FnX K d_l_finder fd) : FnOk P w K mg base CX0 (k + 2) (He.fAd K d_l_finder.at_) fd ["_law_count", "_law_calls_here", "_law_seen"] (sp_l_finder K k) := by
  refine F.ok sc_l_finder (fun vs H Q E h => ?_) (fun cdv A outer s0 H vs Q E hr h => ?_)
  · obtain ⟨n, c, l, seen, rfl, _⟩ := h
    rfl
  obtain ⟨n, c, l, seen, rfl, hl, hk, hn, hc, q⟩ := h
  refine ⟨_, PSs.nox (pss_cons (ps_if (pt_cmpR op_eq (pe_callB call_lenF (by rfl) T.f_len PySem.boot_len (pa_cons (pv 2) pa_nil)) (pv 1) (nomark _)) (pss_one (ps_ret (pe_tupF (pa_cons pe_str (pa_cons pe_bl pa_nil))))) pss_nil)
      (pss_cons (ps_set (i := 3) sc_l_finder.nd rfl (Or.inl rfl) (pe_lst pa_nil))
      (pss_cons (ps_for PassesOwn.never rfl (pi_range1 rfl T.f_range (pa_cons (pv 0) pa_nil)) (pg_name (i := 4) sc_l_finder.nd rfl (Or.inl rfl)) (pss_one (ps_if (pt_cmpR op_in_seq (pv 4) (pv 2) (by with_unfolding_all rfl)) (pss_one (ps_expr (pe_bmF PySem.F.plainAttrs_list PySem.F.slot_list_append PySem.F.type_list_append mt_append (pv 3) (pa_cons (pe_tupF (pa_cons (pv 4) (pa_cons (pe_tupF (pa_cons pe_str (pa_cons pe_bl pa_nil))) pa_nil))) pa_nil)))) (pss_one (ps_expr (pe_bmF PySem.F.plainAttrs_list PySem.F.slot_list_append PySem.F.type_list_append mt_append (pv 3) (pa_cons (pe_tupF (pa_cons (pv 4) (pa_cons (pe_cal ih (hr.mono (by omega)) rfl T.g_l_finder (pa_cons (pv 0) (pa_cons (pv 1) (pa_cons (pe_op op_cat (pv 2) (pe_lst (pa_cons (pv 4) pa_nil))) pa_nil)))) pa_nil))) pa_nil)))))))
      (pss_one (ps_ret (pe_tupF (pa_cons pe_str (pa_cons pe_str (pa_cons pe_int (pa_cons (pe_callTy call_tupleF (by rfl) T.f_tuple (by decide +kernel) (pa_cons (pv 3) pa_nil)) pa_nil)))))))))), ?_⟩
  walk_at "vc"
  cases k with
  | zero =>
    refine ite_t (by simp; omega) ?_
    walk_at "vc"
    rename_i l1 H1 f1 s1 e1
    refine q _ _ s1 ?_
    show Rp H1 (.ref l1) (.tuple [.str "say", .bool false])
    walk_at "rp"
  | succ k =>
    refine ite_f (by simp; omega) ?_
    walk_at "vc"
    rename_i l0 H2 f2 s2 e2
    let gen : Nat → Nat × Py k := fun a => (a, if a ∈ seen then sayP k true else finM n k (seen ++ [a]))
    refine y_forI (n := (n : Int)) (by omega) (by omega) (fun i σ' H' => ∃ (z : Option V) (ys : List V), σ' = [some (.int (n : Nat)), some (.int (c : Nat)), some (.ref l), some (.ref l0), z] ∧ Same H H' ∧ H' l0 = some (.lst ys) ∧ RpL H' ys (((List.range i).map gen).map (qD k))) ?h0 ?hs ?hd (fun Q q => ?ha)
    case h0 => exact ⟨none, [], rfl, s2, e2, .nil⟩
    case ha =>
      walk_at "vc"
      exact q
    case hd =>
      rintro σ' H' ⟨z, ys, rfl, sH, hl0, ry⟩
      walk_at "vc"
      rename_i l4 H4 f4 s4 t4 l5 H5 f5 s5 t5
      refine q _ _ ((sH.trans s4).trans s5) ?_
      show Rp H5 (.ref l5) (.tuple [.str "ask", .str "p", .int 0, .tuple (((List.range n).map gen).map (qD k))])
      have rr : Rp H4 (.ref l4) (.tuple (((List.range n).map gen).map (qD k))) := .tup t4 (ry.same s4)
      have rr5 := rr.same s5
      walk_at "rp"
    rintro i σ' H' hi ⟨z, ys, rfl, sH, hl0, ry⟩
    have hyl : ys.length = i := by have := ry.len; simpa using this
    have hl' := sH _ _ hl
    have fin : ∀ {H3 H6 : Hp} {v : V}, Same H' H3 → Rp H3 v (qD k (gen i)) → But l0 H3 H6 → RpL H6 (ys ++ [v]) (((List.range (i + 1)).map gen).map (qD k)) := by
      intro H3 H6 v s3 rv b6
      rw [List.range_succ, List.map_append, List.map_append]
      exact RpL.tz (Tz.but b6 (s3 _ _ hl0) fun o v z => by cases z) (RpL.app (ry.same s3) (.one rv))
    walk_at "vc"
    refine ⟨l, _, rfl, .inl (SqL.of hl'), rfl, by rw [List.all_map]; exact List.all_eq_true.mpr fun _ _ => rfl, ?_⟩
    simp only [Bool.false_eq_true, if_false]
    rw [inV_nat]
    walk_at "vc"
    refine ite_c (fun h => ?_) (fun h => ?_)
    · have hs : i ∈ seen := of_decide_eq_true h
      walk_at "vc"
      rename_i l4 H4 f4 s4 t4 l5 H5 f5 s5 t5
      have s45 := s4.trans s5
      refine y_append (s45 _ _ hl0) (by omega) fun H6 b6 e6 => ?_
      walk_at "vc"
      refine ⟨some (.int (i : Nat)), _, rfl, Same.but (sH.trans s45) f2 b6, e6, fin s45 ?_ b6⟩
      have eg : gen i = (i, sayP k true) := by show (i, _) = _; rw [if_pos hs]
      rw [eg]
      show Rp H5 (.ref l5) (.tuple [.int (i : Nat), plD k (sayP k true)])
      rw [plD_say]
      have r4 : Rp H4 (.ref l4) (.tuple [.str "say", .bool true]) := by walk_at "rp"
      have r5 := r4.same s5
      walk_at "rp"
    · have hs : i ∉ seen := of_decide_eq_false h
      walk_at "vc"
      rename_i l3 H3 f3 s3 e3
      refine x_cat (s3 _ _ hl') e3 (by simp; omega) fun p7 H7 f7 s7 e7 => ?_
      walk_at "vc"
      have s37 := s3.trans s7
      refine ⟨n, c, p7, seen ++ [i], rfl, by rw [e7, List.map_append]; rfl, by rw [List.length_append]; simp; omega, hn, hc, fun v H8 s8 r8 => ?_⟩
      walk_at "vc"
      rename_i l5 H5 f5 s5 t5
      have s35 := (s37.trans s8).trans s5
      refine y_append (s35 _ _ hl0) (by omega) fun H6 b6 e6 => ?_
      walk_at "vc"
      refine ⟨some (.int (i : Nat)), _, rfl, Same.but (sH.trans s35) f2 b6, e6, fin s35 ?_ b6⟩
      have eg : gen i = (i, finM n k (seen ++ [i])) := by show (i, _) = _; rw [if_neg hs]
      rw [eg]
      show Rp H5 (.ref l5) (.tuple [.int (i : Nat), plD k (finM n k (seen ++ [i]))])
      have r5 := r8.same s5
      walk_at "rp"
theorem c_l_finder (T : Tx K mg) : ∀ k, Cal P w K mg base (k + 2) d_l_finder ["_law_count", "_law_calls_here", "_law_seen"] [] (sp_l_finder K k)
  | 0 => Cal.of T.d_l_finder rfl rfl (fun _ _ _ _ _ _ us hl => match us, hl with | [_, _, _], _ => rfl) fun fd F => ok_l_finder T 0 (n_l_finder T) F
  | k + 1 => Cal.of T.d_l_finder rfl rfl (fun _ _ _ _ _ _ us hl => match us, hl with | [_, _, _], _ => rfl) fun fd F => ok_l_finder T (k + 1) (c_l_finder T k) F
end
end Tn
set_option Elab.async false
set_option linter.all false
set_option maxRecDepth 100000
set_option maxHeartbeats 8000000
set_option pp.maxSteps 400
namespace Tn
open PySem PySem.Spec L2
/-- the chance that c draws are all unlike, as the law's loop makes it -/
def unl (n : Nat) : Nat → Rat
  | 0 => 1
  | k + 1 => unl n k * mkRat (((n - k : Nat) : Int)) n
/-- the cells' n, calls and shift -/
def cells : List (Nat × Nat × Nat) := [2, 3, 4, 5, 6].flatMap fun n => (List.range (if n < 4 then 6 else 4)).flatMap fun c => (List.range n).map fun s => (n, c, s)
def fin1 (x : Nat × Nat × Nat) : Bool := let (n, c, s) := x
  decide (atR 0 0 (mkRat 1 n) c = mkRat (min (2 * n) (c * (c - 1)) : Nat) (2 * n)) && decide (chP n 0 c ([], false) (finM n c []) = 1 - unl n c) && decide (clP c (finM n c []) ≤ c) && decide (DD n c < 2 ^ 40)
theorem fin1_all : cells.all fin1 = true := by decide +kernel
end Tn
set_option Elab.async false
set_option linter.all false
set_option maxRecDepth 100000
set_option maxHeartbeats 8000000
set_option pp.maxSteps 400
namespace Tn
open PySem PySem.Spec L2
def mostM (n s c : Nat) : Option Rat := match bestM n 0 s c (W00 (n ^ c)) (W00 (n ^ c)) 3000, bestM n s 0 c (W00 (n ^ c)) (W00 (n ^ c)) 3000 with
  | some (g, _), some (g', _) => some (mkRat (if g < g' then g' else g) (n ^ c : Nat))
  | _, _ => none
def smB (r : Rat) : Bool := decide (r.num.natAbs < 2 ^ 60) && decide (r.den < 2 ^ 60)
def fin2 (x : Nat × Nat × Nat) : Bool := let (n, c, s) := x
  let b := atR 0 0 (mkRat 1 n) c
  let g := chP n 0 c ([], false) (finM n c []) - chP n s c ([], false) (finM n c [])
  match mostM n s c with
  | some m => decide (¬ m < g) && decide (¬ m < 0 - g) && decide (¬ b < m) && smB m && smB g && smB (0 - g) && smB b && smB (chP n 0 c ([], false) (finM n c [])) && smB (chP n s c ([], false) (finM n c []))
  | none => false
theorem fin2_2 : (cells.filter fun x => x.1 == 2).all fin2 = true := by decide +kernel
theorem fin2_4 : (cells.filter fun x => x.1 == 4).all fin2 = true := by decide +kernel
theorem fin2_3 : (cells.filter fun x => x.1 == 3).all fin2 = true := by decide +kernel
theorem fin2_5 : (cells.filter fun x => x.1 == 5).all fin2 = true := by decide +kernel
theorem fin2_6 : (cells.filter fun x => x.1 == 6).all fin2 = true := by decide +kernel
theorem fin2_all : ∀ x ∈ cells, fin2 x = true := by
  intro x hx
  have e : x.1 = 2 ∨ x.1 = 3 ∨ x.1 = 4 ∨ x.1 = 5 ∨ x.1 = 6 := by
    obtain ⟨n, hn, h⟩ := List.mem_flatMap.mp hx
    obtain ⟨c, hc, h⟩ := List.mem_flatMap.mp h
    obtain ⟨s, hs, rfl⟩ := List.mem_map.mp h
    simp at hn
    exact hn
  rcases e with e | e | e | e | e
  · exact List.all_eq_true.mp fin2_2 x (List.mem_filter.mpr ⟨hx, by rw [e]; rfl⟩)
  · exact List.all_eq_true.mp fin2_3 x (List.mem_filter.mpr ⟨hx, by rw [e]; rfl⟩)
  · exact List.all_eq_true.mp fin2_4 x (List.mem_filter.mpr ⟨hx, by rw [e]; rfl⟩)
  · exact List.all_eq_true.mp fin2_5 x (List.mem_filter.mpr ⟨hx, by rw [e]; rfl⟩)
  · exact List.all_eq_true.mp fin2_6 x (List.mem_filter.mpr ⟨hx, by rw [e]; rfl⟩)
end Tn
set_option Elab.async false
set_option linter.all false
set_option maxRecDepth 100000
set_option maxHeartbeats 8000000
set_option pp.maxSteps 400
namespace Tn
open PySem PySem.Spec L2
/-! ### a player, seen one level deeper: the law's loop asks one promise of both its players -/
def upP : (k : Nat) → Py k → Py (k + 1)
  | 0, b => .inl b
  | _ + 1, .inl b => .inl b
  | k + 1, .inr (.inl ps) => .inr (.inl (ps.map (upP k)))
  | k + 1, .inr (.inr qs) => .inr (.inr (qs.map fun q => (q.1, upP k q.2)))
theorem map_up {α β γ : Type} {f : β → γ} {g : α → γ} {u : α → β} {l : List α} (h : ∀ x ∈ l, f (u x) = g x) : (l.map u).map f = l.map g := by
  rw [List.map_map]
  exact List.map_congr_left h
theorem plD_up : ∀ (k : Nat) (p : Py k), plD (k + 1) (upP k p) = plD k p
  | 0, b => rfl
  | _ + 1, .inl b => rfl
  | k + 1, .inr (.inl ps) => by
    show PyData.tuple [.str "toss", .tuple ((ps.map (upP k)).map (plD (k + 1)))] = .tuple [.str "toss", .tuple (ps.map (plD k))]
    rw [map_up (g := plD k) (fun p _ => plD_up k p)]
  | k + 1, .inr (.inr qs) => by
    show PyData.tuple [.str "ask", .str "p", .int 0, .tuple ((qs.map fun q => (q.1, upP k q.2)).map fun q : Nat × Py (k + 1) => .tuple [.int (q.1 : Nat), plD (k + 1) q.2])] = .tuple [.str "ask", .str "p", .int 0, .tuple (qs.map fun q => .tuple [.int (q.1 : Nat), plD k q.2])]
    rw [map_up (g := fun q : Nat × Py k => .tuple [.int (q.1 : Nat), plD k q.2]) (fun q _ => by show PyData.tuple [.int (q.1 : Nat), plD (k + 1) (upP k q.2)] = _; rw [plD_up k q.2])]
theorem clP_up : ∀ (k : Nat) (p : Py k), clP (k + 1) (upP k p) = clP k p
  | 0, b => rfl
  | _ + 1, .inl b => rfl
  | k + 1, .inr (.inl ps) => by
    show mx ((ps.map (upP k)).map (clP (k + 1))) = mx (ps.map (clP k))
    rw [map_up (g := clP k) (fun p _ => clP_up k p)]
  | k + 1, .inr (.inr qs) => by
    show 1 + mx ((qs.map fun q => (q.1, upP k q.2)).map fun q : Nat × Py (k + 1) => clP (k + 1) q.2) = 1 + mx (qs.map fun q => clP k q.2)
    rw [map_up (f := fun q : Nat × Py (k + 1) => clP (k + 1) q.2) (u := fun q : Nat × Py k => (q.1, upP k q.2)) (g := fun q : Nat × Py k => clP k q.2) (fun q _ => clP_up k q.2)]
theorem okP_up : ∀ (k : Nat) (p : Py k), okP k p → okP (k + 1) (upP k p)
  | 0, b, _ => trivial
  | _ + 1, .inl b, _ => trivial
  | k + 1, .inr (.inl ps), ⟨h1, h2, h3⟩ => ⟨by simpa using h1, by rw [List.length_map]; exact h2, fun p hp => by
      obtain ⟨q, hq, rfl⟩ := List.mem_map.mp hp
      exact okP_up k q (h3 q hq)⟩
  | k + 1, .inr (.inr qs), ⟨h1, h2, h3⟩ => ⟨by rw [List.length_map]; exact h1, by rw [List.map_map]; exact h2, fun p hp => by
      obtain ⟨q, hq, rfl⟩ := List.mem_map.mp hp
      exact okP_up k q.2 (h3 q hq)⟩
theorem chP_up (n s : Nat) : ∀ (k : Nat) (t : Ste) (p : Py k), chP n s (k + 1) t (upP k p) = chP n s k t p
  | 0, _, b => rfl
  | _ + 1, _, .inl b => rfl
  | k + 1, t, .inr (.inl ps) => by
    show sumR ((ps.map (upP k)).map (chP n s (k + 1) t)) * mkRat 1 (ps.map (upP k)).length = sumR (ps.map (chP n s k t)) * mkRat 1 ps.length
    rw [map_up (g := chP n s k t) (fun p _ => chP_up n s k t p), List.length_map]
  | k + 1, t, .inr (.inr qs) => by
    simp only [upP, chP]
    congr 1
    funext r a
    rw [List.find?_map]
    cases e : qs.find? ((fun q : Nat × Py (k + 1) => decide (q.1 = eAns n s t.1 t.2 a)) ∘ fun q => (q.1, upP k q.2)) with
    | none =>
      have e' : qs.find? (fun q => decide (q.1 = eAns n s t.1 t.2 a)) = none := e
      rw [e']
      rfl
    | some q =>
      have e' : qs.find? (fun q => decide (q.1 = eAns n s t.1 t.2 a)) = some q := e
      rw [e']
      show r + mkRat 1 n * chP n s (k + 1) (eKs t.1 a, eB t.1 t.2 a) (upP k q.2) = r + mkRat 1 n * chP n s k (eKs t.1 a, eB t.1 t.2 a) q.2
      rw [chP_up n s k]
/-- up to depth k + m -/
def ups (k : Nat) (p : Py k) : (m : Nat) → Py (k + m)
  | 0 => p
  | m + 1 => upP (k + m) (ups k p m)
theorem ups_ok (k : Nat) (p : Py k) (n s : Nat) (t : Ste) (h : okP k p) : ∀ m, plD (k + m) (ups k p m) = plD k p ∧ clP (k + m) (ups k p m) = clP k p ∧ okP (k + m) (ups k p m) ∧ chP n s (k + m) t (ups k p m) = chP n s k t p
  | 0 => ⟨rfl, rfl, h, rfl⟩
  | m + 1 => by
    obtain ⟨a, b, c, d⟩ := ups_ok k p n s t h m
    exact ⟨(plD_up _ _).trans a, (clP_up _ _).trans b, okP_up _ _ c, (chP_up n s _ t _).trans d⟩
/-- any player up to depth 5 -/
theorem to5 {k : Nat} (hk : k ≤ 5) (p : Py k) (h : okP k p) : ∃ p' : Py 5, plD 5 p' = plD k p ∧ clP 5 p' = clP k p ∧ okP 5 p' ∧ ∀ n s t, chP n s 5 t p' = chP n s k t p := by
  obtain ⟨m, e⟩ : ∃ m, 5 = k + m := ⟨5 - k, by omega⟩
  rw [e]
  exact ⟨ups k p m, (ups_ok k p 0 0 ([], false) h m).1, (ups_ok k p 0 0 ([], false) h m).2.1, (ups_ok k p 0 0 ([], false) h m).2.2.1, fun n s t => (ups_ok k p n s t h m).2.2.2⟩
end Tn
set_option Elab.async false
set_option linter.all false
set_option maxRecDepth 100000
set_option maxHeartbeats 8000000
set_option pp.maxSteps 400
namespace Tn
open PySem PySem.Spec L2
/-! ### the drawn player: how far apart its two chances can be -/
theorem eAns_nil (n s a : Nat) : eAns n s [] false a = a := rfl
theorem chP_first (n s : Nat) : ∀ p : Py 1, chP n s 1 ([], false) p = chP n 0 1 ([], false) p
  | .inl _ => rfl
  | .inr (.inl _) => rfl
  | .inr (.inr _) => rfl
theorem chP_still (n s : Nat) (t u : Ste) : ∀ q : Py 1, clP 1 q = 0 → chP n s 1 t q = chP n 0 1 u q
  | .inl _, _ => rfl
  | .inr (.inl _), _ => rfl
  | .inr (.inr qs), h => by
    have : 1 + mx (qs.map fun q => clP 0 q.2) = 0 := h
    omega
/-- a leaf's chance lies in 0..1, so one answer's step moves at most 1/n -/
def stepP (n s k : Nat) (t : Ste) (qs : List (Nat × Py k)) (a : Nat) : Rat := match qs.find? fun q => decide (q.1 = eAns n s t.1 t.2 a) with
  | some q => mkRat 1 n * chP n s k (eKs t.1 a, eB t.1 t.2 a) q.2
  | none => 0
theorem fold_add {α : Type} (f : α → Rat) : ∀ (l : List α) (r : Rat), l.foldl (fun r a => r + f a) r = r + (l.map f).foldr (· + ·) 0
  | [], r => by simp [Rat.add_zero]
  | a :: l, r => by
    show l.foldl _ (r + f a) = r + (f a + _)
    rw [fold_add f l, Rat.add_assoc]
theorem chP_ask (n s k : Nat) (t : Ste) (qs : List (Nat × Py k)) : chP n s (k + 1) t (.inr (.inr qs)) = ((List.range n).map (stepP n s k t qs)).foldr (· + ·) 0 := by
  have e : chP n s (k + 1) t (.inr (.inr qs)) = (List.range n).foldl (fun r a => r + stepP n s k t qs a) 0 := by
    simp only [chP]
    congr 1
    funext r a
    unfold stepP
    cases qs.find? fun q => decide (q.1 = eAns n s t.1 t.2 a) with
    | none => exact (Rat.add_zero r).symm
    | some q => rfl
  rw [e, fold_add, Rat.zero_add]
/-- sums that differ by at most e at each entry -/
theorem sum_close {α : Type} {f g e : α → Rat} : ∀ {l : List α}, (∀ a ∈ l, f a - g a ≤ e a) → (l.map f).foldr (· + ·) 0 - (l.map g).foldr (· + ·) 0 ≤ (l.map e).foldr (· + ·) 0
  | [], _ => by show (0 : Rat) - 0 ≤ 0; decide +kernel
  | a :: l, h => by
    have h1 := h a (List.mem_cons_self ..)
    have h2 := sum_close (f := f) (g := g) (e := e) (l := l) fun b hb => h b (List.mem_cons_of_mem _ hb)
    show (f a + (l.map f).foldr (· + ·) 0) - (g a + (l.map g).foldr (· + ·) 0) ≤ e a + (l.map e).foldr (· + ·) 0
    generalize (l.map f).foldr (· + ·) 0 = F at h2 ⊢
    generalize (l.map g).foldr (· + ·) 0 = G at h2 ⊢
    generalize (l.map e).foldr (· + ·) 0 = E at h2 ⊢
    grind
theorem sum_const {c : Rat} : ∀ n : Nat, ((List.range n).map fun _ => c).foldr (· + ·) 0 = (n : Rat) * c := by
  have key : ∀ l : List Nat, (l.map fun _ => c).foldr (· + ·) 0 = (l.length : Rat) * c := by
    intro l
    induction l with
    | nil => show (0 : Rat) = ((0 : Nat) : Rat) * c; grind
    | cons a l ih =>
      show c + (l.map fun _ => c).foldr (· + ·) 0 = ((l.length + 1 : Nat) : Rat) * c
      rw [ih]
      grind
  intro n
  rw [key, List.length_range]
theorem sum_zero {e : Nat → Rat} : ∀ {l : List Nat}, (∀ a ∈ l, e a = 0) → (l.map e).foldr (· + ·) 0 = 0
  | [], _ => rfl
  | a :: l, h => by
    show e a + (l.map e).foldr (· + ·) 0 = 0
    rw [h a (List.mem_cons_self ..), sum_zero fun b hb => h b (List.mem_cons_of_mem _ hb), Rat.zero_add]
theorem sum_one {c : Rat} (hc : 0 ≤ c) (b : Nat) : ∀ {l : List Nat}, l.Nodup → (l.map fun a => if a = b then c else 0).foldr (· + ·) 0 ≤ c
  | [], _ => hc
  | a :: l, h => by
    show (if a = b then c else 0) + (l.map fun a => if a = b then c else 0).foldr (· + ·) 0 ≤ c
    have hn := List.nodup_cons.mp h
    by_cases e : a = b
    · subst e
      rw [if_pos rfl, sum_zero (e := fun x => if x = a then c else 0) fun x hx => if_neg fun (e : x = a) => hn.1 (e ▸ hx), Rat.add_zero]
      exact Rat.le_refl
    · rw [if_neg e, Rat.zero_add]
      exact sum_one hc b hn.2
theorem bR_in (b : Bool) : 0 ≤ bR b ∧ bR b ≤ 1 := by cases b <;> decide
theorem step0_in {n s : Nat} {t : Ste} {qs : List (Nat × Py 0)} {a : Nat} (h : 0 ≤ mkRat 1 n) : 0 ≤ stepP n s 0 t qs a ∧ stepP n s 0 t qs a ≤ mkRat 1 n := by
  unfold stepP
  cases qs.find? fun q => decide (q.1 = eAns n s t.1 t.2 a) with
  | none => exact ⟨Rat.le_refl, h⟩
  | some q =>
    have b := bR_in q.2
    show 0 ≤ mkRat 1 n * bR q.2 ∧ mkRat 1 n * bR q.2 ≤ mkRat 1 n
    generalize mkRat 1 n = y at h ⊢
    have : bR q.2 = 0 ∨ bR q.2 = 1 := by cases q.2 <;> simp [bR]
    rcases this with e | e <;> rw [e] <;> grind
theorem mx0 {l : List Nat} (h : mx l = 0) {c : Nat} (hc : c ∈ l) : c = 0 := Nat.le_zero.mp (h ▸ mx_le hc)
theorem inner_close {n s s' a : Nat} (h : 0 ≤ mkRat 1 n) : ∀ q : Py 1, chP n s 1 ([a], false) q - chP n s' 1 ([a], false) q ≤ mkRat 1 n
  | .inl b => by show bR b - bR b ≤ _; grind
  | .inr (.inl ps) => by
    show chP n s 1 ([a], false) (.inr (.inl ps)) - chP n s 1 ([a], false) (.inr (.inl ps)) ≤ _
    generalize chP n s 1 ([a], false) (.inr (.inl ps)) = x
    grind
  | .inr (.inr qs) => by
    rw [chP_ask, chP_ask]
    refine Rat.le_trans (sum_close (e := fun a' => if a' = a then mkRat 1 n else 0) fun a' _ => ?_) (sum_one h a List.nodup_range)
    by_cases e : a' = a
    · rw [if_pos e]
      have h1 := step0_in (s := s) (t := ([a], false)) (qs := qs) (a := a') h
      have h2 := step0_in (s := s') (t := ([a], false)) (qs := qs) (a := a') h
      grind
    · rw [if_neg e]
      have ea : ∀ s, eAns n s [a] false a' = a' := fun s => by
        unfold eAns
        rw [if_neg (by simpa using e)]
      have es : stepP n s 0 ([a], false) qs a' = stepP n s' 0 ([a], false) qs a' := by
        unfold stepP
        simp only [ea]
        rfl
      rw [es]
      grind
theorem at012 : ∀ n ∈ [2, 3, 4, 5, 6], atR 0 0 (mkRat 1 n) 0 = 0 ∧ atR 0 0 (mkRat 1 n) 1 = 0 ∧ atR 0 0 (mkRat 1 n) 2 = mkRat 1 n ∧ 0 ≤ mkRat 1 n ∧ (n : Rat) * (mkRat 1 n * mkRat 1 n) = mkRat 1 n := by decide +kernel
theorem mx_bd {l : List Nat} {m : Nat} (h : ∀ c ∈ l, c ≤ m) : mx l ≤ m := by
  induction l with
  | nil => exact Nat.zero_le _
  | cons a l ih => exact Nat.max_le.mpr ⟨h a (List.mem_cons_self ..), ih fun c hc => h c (List.mem_cons_of_mem _ hc)⟩
theorem clP_bd : ∀ (k : Nat) (p : Py k), clP k p ≤ k
  | 0, _ => Nat.le_refl _
  | _ + 1, .inl _ => Nat.zero_le _
  | k + 1, .inr (.inl ps) => Nat.le_succ_of_le (mx_bd fun c hc => by
      obtain ⟨p, _, rfl⟩ := List.mem_map.mp hc
      exact clP_bd k p)
  | k + 1, .inr (.inr qs) => by
      have : mx (qs.map fun q => clP k q.2) ≤ k := mx_bd fun c hc => by
        obtain ⟨p, _, rfl⟩ := List.mem_map.mp hc
        exact clP_bd k p.2
      show 1 + mx (qs.map fun q => clP k q.2) ≤ k + 1
      omega
theorem at_nonneg {n k : Nat} (hn : n ∈ [2, 3, 4, 5, 6]) (hk : k ≤ 2) : 0 ≤ atR 0 0 (mkRat 1 n) k := by
  obtain ⟨a0, a1, a2, h, _⟩ := at012 n hn
  have : k = 0 ∨ k = 1 ∨ k = 2 := by omega
  rcases this with rfl | rfl | rfl
  · rw [a0]; exact Rat.le_refl
  · rw [a1]; exact Rat.le_refl
  · rw [a2]; exact h
theorem step_none {n s k a : Nat} {qs : List (Nat × Py k)} (h : qs.find? (fun q => decide (q.1 = a)) = none) : stepP n s k ([], false) qs a = 0 := by
  have h' : qs.find? (fun q => decide (q.1 = eAns n s [] false a)) = none := h
  unfold stepP
  rw [h']
theorem step_some {n s k a : Nat} {qs : List (Nat × Py k)} {q : Nat × Py k} (h : qs.find? (fun q => decide (q.1 = a)) = some q) : stepP n s k ([], false) qs a = mkRat 1 n * chP n s k ([a], false) q.2 := by
  have h' : qs.find? (fun q => decide (q.1 = eAns n s [] false a)) = some q := h
  unfold stepP
  rw [h']
  rfl
theorem drawn_close {n s s' : Nat} (hn : n ∈ [2, 3, 4, 5, 6]) : ∀ p : Py 2, chP n s 2 ([], false) p - chP n s' 2 ([], false) p ≤ atR 0 0 (mkRat 1 n) (clP 2 p)
  | .inl b => by
    have h := at_nonneg (k := clP 2 (.inl b)) hn (clP_bd 2 _)
    show bR b - bR b ≤ _
    grind
  | .inr (.inl ps) => by
    have h := at_nonneg (k := clP 2 (.inr (.inl ps))) hn (clP_bd 2 _)
    have e : ∀ s, chP n s 2 ([], false) (.inr (.inl ps)) = sumR (ps.map (chP n 0 1 ([], false))) * mkRat 1 ps.length := fun s => by
      show sumR (ps.map (chP n s 1 ([], false))) * mkRat 1 ps.length = _
      rw [List.map_congr_left fun p _ => chP_first n s p]
    rw [e s, e s']
    generalize sumR (ps.map (chP n 0 1 ([], false))) * mkRat 1 ps.length = x
    grind
  | .inr (.inr qs) => by
    obtain ⟨a0, a1, a2, h, h2⟩ := at012 n hn
    have hc : clP 2 (.inr (.inr qs)) = 1 + mx (qs.map fun q => clP 1 q.2) := rfl
    have hb := clP_bd 2 (.inr (.inr qs))
    rw [chP_ask, chP_ask]
    by_cases h0 : mx (qs.map fun q => clP 1 q.2) = 0
    · rw [hc, h0, a1]
      refine Rat.le_trans (sum_close (e := fun _ => 0) fun a _ => ?_) (by rw [sum_zero fun _ _ => rfl]; exact Rat.le_refl)
      have es : stepP n s 1 ([], false) qs a = stepP n s' 1 ([], false) qs a := by
        cases e : qs.find? fun q => decide (q.1 = a) with
        | none => rw [step_none e, step_none e]
        | some q =>
          have hq : clP 1 q.2 = 0 := mx0 h0 (List.mem_map.mpr ⟨q, List.mem_of_find?_eq_some e, rfl⟩)
          rw [step_some e, step_some e, chP_still n s _ ([], false) q.2 hq, chP_still n s' _ ([], false) q.2 hq]
      rw [es]
      generalize stepP n s' 1 ([], false) qs a = x
      grind
    · have e2 : clP 2 (.inr (.inr qs)) = 2 := by omega
      rw [e2, a2]
      refine Rat.le_trans (sum_close (e := fun _ => mkRat 1 n * mkRat 1 n) fun a _ => ?_) (by rw [sum_const, h2]; exact Rat.le_refl)
      cases e : qs.find? fun q => decide (q.1 = a) with
      | none =>
        rw [step_none e, step_none e]
        have := Rat.mul_nonneg h h
        grind
      | some q =>
        have hi := inner_close (s := s) (s' := s') (a := a) h q.2
        rw [step_some e, step_some e]
        have := Rat.mul_le_mul_of_nonneg_left hi h
        grind
end Tn
set_option Elab.async false
set_option linter.all false
set_option maxRecDepth 100000
set_option maxHeartbeats 8000000
set_option pp.maxSteps 400
namespace Tn
open PySem PySem.Spec L2
local macro_rules | `(tactic| walk_at "tz") => `(tactic| first
  | ((refine' Tz.same ?s); (case s => with_reducible assumption))
  | ((refine' Tz.but ?b ?h ?n); (case b => with_reducible assumption); (case h => walk_at "look"); (case n => (intro o v z; cases z))))
local macro_rules | `(tactic| walk_at "fz") => `(tactic| first
  | ((refine' Fz.same ?s); (case s => with_reducible assumption))
  | ((refine' Fz.but ?b ?h ?n); (case b => with_reducible assumption); (case h => walk_at "look"); (case n => first | exact nf_lst | exact nf_dK | exact nf_ext | assumption)))
local macro_rules | `(tactic| walk_at "look") => `(tactic| first
  | with_reducible assumption
  | ((with_reducible refine' Same.app ?s ?m); (case s => with_reducible assumption); (case m => walk_at "look"))
  | ((with_reducible refine' RR.fz ?z ?m); (case z => walk_at "fz"); (case m => walk_at "look"))
  | ((with_reducible refine' Rp.tz ?z ?m); (case z => walk_at "tz"); (case m => walk_at "look"))
  | ((with_reducible refine' TU.tz ?z ?m); (case z => walk_at "tz"); (case m => walk_at "look"))
  | ((with_reducible refine' RpL.tz ?z ?m); (case z => walk_at "tz"); (case m => walk_at "look"))
  | ((with_reducible refine' GM.fz ?z ?m); (case z => walk_at "fz"); (case m => walk_at "look"))
  | ((with_reducible refine' But.app' ?b ?n ?m); (case b => with_reducible assumption); (case n => first | assumption | (refine Ne.symm ?_; assumption)); (case m => walk_at "look"))
  | ((with_reducible refine' But.app ?b ?l ?d ?m); (case b => with_reducible assumption); (case m => walk_at "look"); (case l => walk_at "look"); (case d => (intro z; cases z))))
local macro_rules | `(tactic| walk_at "rp") => `(tactic| first
  | (with_reducible assumption)
  | walk_at "look"
  | exact Rp.bl _ | exact Rp.int _ | exact Rp.str _ | exact Rp.non
  | ((refine' Rp.tup ?h ?l); (case h => walk_at "look"); (case l => walk_at "rpl")))
local macro_rules | `(tactic| walk_at "rpl") => `(tactic| first
  | exact RpL.nil
  | ((refine' RpL.cons ?h ?l); (case h => walk_at "rp"); (case l => walk_at "rpl")))
local macro_rules | `(tactic| walk_at "vc") => `(tactic| repeat (first
  | with_reducible refine' x_seq ?_
  | with_reducible refine' x_ifS ?_
  | with_reducible refine' x_asg ?_
  | with_reducible refine' x_drop ?_
  | with_reducible refine' x_ret ?_
  | with_reducible refine' x_name ?_
  | with_reducible refine' x_c ?_
  | ((with_reducible refine' x_var ?h ?_); (case h => rfl))
  | with_reducible refine' x_op ?_
  | with_reducible refine' x_un ?_
  | with_reducible refine' x_tup ?_
  | with_reducible refine' x_lst ?_
  | ((with_reducible refine' x_gtup ?h ?l ?_); (case h => walk_at "look"); (case l => rfl))
  | ((with_reducible refine' x_gtup' ?h ?l ?_); (case h => walk_at "look"); (case l => rfl))
  | with_reducible refine' x_gcons ?_
  | with_reducible refine' x_gnil ?_
  | with_reducible refine' x_nil ?_
  | with_reducible refine' x_cons ?_
  | with_reducible refine' x_call ?_
  | with_reducible refine' x_meth ?_
  | ((with_reducible refine' x_methv ?h ?l ?_); (case h => walk_at "look"); (case l => first | rfl | decide +kernel))
  | with_reducible refine' x_make ?_
  | with_reducible refine' x_cb ?_
  | with_reducible refine' x_test ?_
  | with_reducible refine' x_B ?_
  | with_reducible refine' x_and ?_
  | with_reducible refine' x_or ?_
  | with_reducible refine' x_not ?_
  | with_reducible refine' x_if ?_
  | with_reducible refine' x_andV ?_
  | with_reducible refine' x_orV ?_
  | with_reducible refine' x_notV ?_
  | with_reducible refine' x_next ?_
  | with_reducible refine' x_gfldc ?_
  | with_reducible refine' x_bmF ?_
  | with_reducible refine' x_bmF0 ?_
  | ((with_reducible refine' y_tyL ?h ?_); (case h => walk_at "look"))
  | ((with_reducible refine' y_tyD ?h ?_); (case h => walk_at "look"))
  | ((with_reducible refine' y_lenL ?h ?_); (case h => walk_at "look"))
  | ((with_reducible refine' y_lenR ?h ?_); (case h => walk_at "look"))
  | with_reducible refine' x_forT ?_
  | with_reducible refine' x_forL ?_
  | with_reducible refine' x_lcT ?_
  | with_reducible refine' x_lcL ?_
  | ((with_reducible refine' y_tupleL ?h ?_); (case h => walk_at "look"); intro _ _ _ _ _)
  | ((with_reducible refine' y_tupleR ?h ?_); (case h => walk_at "look"))
  | ((with_reducible refine' y_tupleT ?h ?_); (case h => walk_at "look"))
  | with_reducible refine' x_cont ?_
  | with_reducible refine' x_dget ?_
  | with_reducible refine' x_din ?_
  | with_reducible refine' x_dput ?_
  | ((with_reducible refine' x_dnewN ?_); intro _ _ _ _ _)
  | with_reducible refine' x_nget2 ?_
  | with_reducible refine' x_nput ?_
  | with_reducible refine' x_lcN ?_
  | with_reducible refine' x_lcKF ?_
  | with_reducible refine' x_itemsN ?_
  | ((with_reducible refine' x_dnewK ?_); intro _ _ _ _ _)
  | with_reducible refine' x_forRev ?_
  | with_reducible refine' x_sl ?_
  | with_reducible refine' x_nopart ?_
  | with_reducible refine' x_part ?_
  | with_reducible refine' x_partI ?_
  | with_reducible refine' x_revL ?_
  | with_reducible refine' x_sfldc ?_
  | with_reducible refine' x_bl ?_
  | ((with_reducible refine' x_fldc ?h ?l ?_); (case h => walk_at "look"); (case l => first | rfl | decide +kernel))
  | ((with_reducible refine' x_setc ?h ?l ?_); (case h => walk_at "look"); (case l => exact Nat.le_of_ble_eq_true rfl); intro _ _ _)
  | ((with_reducible refine' y_num ?h ?_); (case h => walk_at "look"))
  | ((with_reducible refine' y_den ?h ?_); (case h => walk_at "look"))
  | with_reducible refine' y_I0 ?_
  | ((with_reducible refine' y_ixS ?h ?e ?a ?_); (case h => walk_at "look"); (case e => rfl); (case a => rfl))
  | ((with_reducible refine' y_ixI ?h ?e ?a ?_); (case h => walk_at "look"); (case e => rfl); (case a => rfl))
  | ((with_reducible refine' y_ixB ?h ?e ?a ?_); (case h => walk_at "look"); (case e => rfl); (case a => rfl))
  | ((with_reducible refine' y_ixR ?h ?e ?a ?_); (case h => walk_at "look"); (case e => rfl); (case a => rfl); intro _ _)
  | ((with_reducible refine' y_ixT ?h ?a ?_); (case h => walk_at "look"); (case a => rfl))
  | ((with_reducible refine' y_eq ?s ?_); (case s => rfl))
  | ((with_reducible refine' y_ne ?s ?_); (case s => rfl))
  | ((with_reducible refine' x_rtup ?l ?_); (case l => exact Nat.le_of_ble_eq_true rfl); intro _ _ _ _ _)
  | ((with_reducible refine' x_rlst ?l ?_); (case l => exact Nat.le_of_ble_eq_true rfl); intro _ _ _ _ _)
  | ((with_reducible refine' ite_t ?h ?_); (case h => first | with_reducible rfl | assumption | exact decide_eq_true (by omega) | decide +kernel | rfl))
  | ((with_reducible refine' ite_f ?h ?_); (case h => first | with_reducible rfl | assumption | exact decide_eq_false (by omega) | decide +kernel | rfl))))
theorem sc_law : FnScope ["_law_script", "_law_cell_here", "_law_count", "_law_calls_here", "_law_first", "_law_second", "_law_derivation", "_law_bound", "_law_due", "_law_unlike", "_law_k", "_law_finder_here", "_law_most", "_law_gain", "_law_player_here", "_law_one", "_law_two"] ["_law_script"] (defScope s_law) := ⟨rfl, rfl, rfl, by decide +kernel, rfl, by decide +kernel, by decide +kernel⟩
def cellN (ns : List Int) : Nat := (L2.cellOf ns 0).natAbs
def cn (x : Nat) : Nat := 2 + x % 5
def cc (x : Nat) : Nat := if cn x < 4 then x / 5 % 6 else x / 5 % 4
def cs (x : Nat) : Nat := x / 20 % cn x
theorem cn_in (x : Nat) : cn x ∈ [2, 3, 4, 5, 6] := by
  have : cn x = 2 ∨ cn x = 3 ∨ cn x = 4 ∨ cn x = 5 ∨ cn x = 6 := by unfold cn; omega
  simpa using this
theorem cc_le (x : Nat) : cc x ≤ 5 := by unfold cc; split <;> omega
theorem cell_in (x : Nat) : (cn x, cc x, cs x) ∈ cells := by
  refine List.mem_flatMap.mpr ⟨cn x, cn_in x, List.mem_flatMap.mpr ⟨cc x, List.mem_range.mpr ?_, List.mem_map.mpr ⟨cs x, List.mem_range.mpr ?_, rfl⟩⟩⟩
  · unfold cc
    split
    · exact Nat.mod_lt _ (by decide)
    · exact Nat.mod_lt _ (by decide)
  · exact Nat.mod_lt _ (by unfold cn; omega)
end Tn
set_option Elab.async false
set_option linter.all false
set_option maxRecDepth 100000
set_option maxHeartbeats 8000000
set_option pp.maxSteps 400
namespace Tn
open PySem PySem.Spec L2
/-! ### the finite part, in the walk's words -/
def t0 : Ste := ([], false)
abbrev bdR (n k : Nat) : Rat := atR 0 0 (mkRat 1 n) k
abbrev c1R (n c : Nat) : Rat := chP n 0 c t0 (finM n c [])
abbrev c2R (n s c : Nat) : Rat := chP n s c t0 (finM n c [])
theorem sm_of {r : Rat} (h : smB r = true) : Sm r := by
  unfold smB at h
  rw [Bool.and_eq_true] at h
  exact ⟨of_decide_eq_true h.1, of_decide_eq_true h.2⟩
def fin3 (x : Nat × Nat × Nat) : Bool := let (n, c, s) := x
  let b := bdR n (clP c (finM n c []))
  decide (¬ b < c1R n c - c2R n s c) && decide (¬ b < c2R n s c - c1R n c) && smB (unl n c) && smB b
theorem fin3_all : cells.all fin3 = true := by decide +kernel
theorem at_ok : ∀ n ∈ [2, 3, 4, 5, 6], ∀ k ∈ [0, 1, 2, 3, 4, 5], AtOk 0 0 (mkRat 1 n) k ∧ Sm (bdR n k) := by
  have : ∀ n ∈ [2, 3, 4, 5, 6], ∀ k ∈ [0, 1, 2, 3, 4, 5], (decide (AtOk 0 0 (mkRat 1 n) k) && smB (bdR n k)) = true := by decide +kernel
  intro n hn k hk
  have h := this n hn k hk
  rw [Bool.and_eq_true] at h
  exact ⟨of_decide_eq_true h.1, sm_of h.2⟩
theorem unl_ok : ∀ n ∈ [2, 3, 4, 5, 6], ∀ k ∈ [0, 1, 2, 3, 4], n * (unl n k).den < 2000 ∧ (unl n k).num.natAbs < 2 ^ 40 := by decide +kernel
structure Cell (n c s : Nat) : Prop where
  n_in : n ∈ [2, 3, 4, 5, 6]
  n0 : 0 < n
  n60 : n < 60
  n8 : n ≤ 8
  c5 : c ≤ 5
  s6 : s < 1000
  due : bdR n c = mkRat ((min (2 * n) (c * (c - 1)) : Nat) : Int) (2 * n)
  one : c1R n c = 1 - unl n c
  cl : clP c (finM n c []) ≤ c
  dd : DD n 5 < 2 ^ 40
  nc : n ^ c < 2 ^ 40
  nc0 : n ^ c ≠ 0
  su : Sm (unl n c)
  ao : ∀ k, k ≤ 5 → AtOk 0 0 (mkRat 1 n) k
  sb : ∀ k, k ≤ 5 → Sm (bdR n k)
  un : ∀ k, k < c → n * (unl n k).den < 2000 ∧ (unl n k).num.natAbs < 2 ^ 40
  most : ∃ (g g' : Int) (l l' : Nat), bestM n 0 s c (W00 (n ^ c)) (W00 (n ^ c)) 3000 = some (g, l) ∧ bestM n s 0 c (W00 (n ^ c)) (W00 (n ^ c)) 3000 = some (g', l') ∧
    ¬ mkRat (if g < g' then g' else g) (n ^ c) < c1R n c - c2R n s c ∧ ¬ mkRat (if g < g' then g' else g) (n ^ c) < 0 - (c1R n c - c2R n s c) ∧ ¬ bdR n c < mkRat (if g < g' then g' else g) (n ^ c) ∧
    Sm (mkRat (if g < g' then g' else g) (n ^ c)) ∧ Sm (c1R n c - c2R n s c) ∧ Sm (0 - (c1R n c - c2R n s c)) ∧ Sm (c1R n c) ∧ Sm (c2R n s c)
  fd1 : ¬ bdR n (clP c (finM n c [])) < c1R n c - c2R n s c
  fd2 : ¬ bdR n (clP c (finM n c [])) < c2R n s c - c1R n c
theorem dd_small : ∀ n ∈ [2, 3, 4, 5, 6], DD n 5 < 2 ^ 40 := by decide +kernel
theorem nc_small : ∀ n ∈ [2, 3, 4, 5, 6], ∀ c ∈ [0, 1, 2, 3, 4, 5], n ^ c < 2 ^ 40 := by decide +kernel
theorem in_six {k : Nat} (h : k ≤ 5) : k ∈ [0, 1, 2, 3, 4, 5] := by
  have : k = 0 ∨ k = 1 ∨ k = 2 ∨ k = 3 ∨ k = 4 ∨ k = 5 := by omega
  simpa using this
theorem in_five {k : Nat} (h : k < 5) : k ∈ [0, 1, 2, 3, 4] := by
  have : k = 0 ∨ k = 1 ∨ k = 2 ∨ k = 3 ∨ k = 4 := by omega
  simpa using this
theorem cell_facts (x : Nat) : Cell (cn x) (cc x) (cs x) := by
  have hx := cell_in x
  have h1 := List.all_eq_true.mp fin1_all _ hx
  have h2 := fin2_all _ hx
  have h3 := List.all_eq_true.mp fin3_all _ hx
  have hn := cn_in x
  have hc := cc_le x
  have hs : cs x < cn x := Nat.mod_lt _ (by unfold cn; omega)
  have hn2 : 2 ≤ cn x ∧ cn x ≤ 6 := by unfold cn; omega
  generalize cn x = n at *
  generalize cc x = c at *
  generalize cs x = s at *
  unfold fin1 at h1
  simp only [Bool.and_eq_true, decide_eq_true_eq] at h1
  obtain ⟨⟨⟨a1, a2⟩, a3⟩, a4⟩ := h1
  unfold fin3 at h3
  simp only [Bool.and_eq_true, decide_eq_true_eq] at h3
  obtain ⟨⟨⟨b1, b2⟩, b3⟩, b4⟩ := h3
  refine ⟨hn, by omega, by omega, by omega, hc, by omega, a1, a2, a3, dd_small n hn, nc_small n hn c (in_six hc), Nat.ne_of_gt (Nat.pow_pos (by omega)), sm_of b3, fun k hk => (at_ok n hn k (in_six hk)).1, fun k hk => (at_ok n hn k (in_six hk)).2, fun k hk => unl_ok n hn k (in_five (by omega)), ?_, b1, b2⟩
  unfold fin2 at h2
  dsimp only at h2
  unfold mostM at h2
  cases e1 : bestM n 0 s c (W00 (n ^ c)) (W00 (n ^ c)) 3000 with
  | none => rw [e1] at h2; cases h2
  | some p =>
    cases e2 : bestM n s 0 c (W00 (n ^ c)) (W00 (n ^ c)) 3000 with
    | none => rw [e1, e2] at h2; cases h2
    | some p' =>
      obtain ⟨g, l⟩ := p
      obtain ⟨g', l'⟩ := p'
      rw [e1, e2] at h2
      simp only [Bool.and_eq_true, decide_eq_true_eq] at h2
      obtain ⟨⟨⟨⟨⟨⟨⟨⟨d1, d2⟩, d3⟩, d4⟩, d5⟩, d6⟩, d7⟩, d8⟩, d9⟩ := h2
      exact ⟨g, g', l, l', rfl, rfl, d1, d2, d3, sm_of d4, sm_of d5, sm_of d6, sm_of d8, sm_of d9⟩
theorem due_eq {n c : Nat} (hc : c ≤ 5) : (if (c : Int) * ((c : Int) - 1) < 1 * 2 * (n : Int) then (c : Int) * ((c : Int) - 1) else 1 * 2 * (n : Int)) = ((min (2 * n) (c * (c - 1)) : Nat) : Int) := by
  have : c = 0 ∨ c = 1 ∨ c = 2 ∨ c = 3 ∨ c = 4 ∨ c = 5 := by omega
  rw [Nat.min_def]
  rcases this with rfl | rfl | rfl | rfl | rfl | rfl <;> split <;> split <;> omega
theorem due_le (n c : Nat) : min (2 * n) (c * (c - 1)) ≤ 2 * n := Nat.min_le_left _ _
/-- what the law's loop asks of each of its players -/
def PlOk (n s : Nat) (p : Py 5) : Prop := okP 5 p ∧ clP 5 p ≤ 5 ∧ ¬ bdR n (clP 5 p) < chP n 0 5 t0 p - chP n s 5 t0 p ∧ ¬ bdR n (clP 5 p) < chP n s 5 t0 p - chP n 0 5 t0 p
theorem InR.sub {D B : Nat} {r r' : Rat} (h0 : D ≠ 0) (hD : D < 2 ^ 59) (hB : B < 2 ^ 59) (h : InR D B r) (h' : InR D B r') : Sm (r - r') := by
  obtain ⟨m, h1, rfl⟩ := h
  obtain ⟨m', h1', rfl⟩ := h'
  rw [mk_sub _ _ h0]
  exact sm_mk h0 (by omega) (by omega)
theorem PlOk.sm {n s : Nat} {p : Py 5} (hn : 0 < n) (hd : DD n 5 < 2 ^ 40) (h : PlOk n s p) : Sm (chP n 0 5 t0 p) ∧ Sm (chP n s 5 t0 p) ∧ Sm (chP n 0 5 t0 p - chP n s 5 t0 p) ∧ Sm (chP n s 5 t0 p - chP n 0 5 t0 p) := by
  have k : (2 : Nat) ^ 40 < 2 ^ 59 := by decide
  have k' : (2 : Nat) ^ 59 < 2 ^ 60 := by decide
  have a := ch_form (n := n) (s := 0) hn 5 t0 p h.1
  have b := ch_form (n := n) (s := s) hn 5 t0 p h.1
  have h0 : DD n 5 ≠ 0 := DD_ne hn
  generalize DD n 5 = D at a b hd h0
  exact ⟨a.sm h0 (by omega) (by omega), b.sm h0 (by omega) (by omega), InR.sub h0 (by omega) (by omega) a b, InR.sub h0 (by omega) (by omega) b a⟩
theorem ok_say : ∀ (k : Nat) (b : Bool), okP k (sayP k b)
  | 0, _ => trivial
  | _ + 1, _ => trivial
theorem finM_ok {n : Nat} (hn : n ≤ 60) : ∀ (k : Nat) (seen : List Nat), okP k (finM n k seen)
  | 0, _ => trivial
  | k + 1, seen => ⟨by rw [List.length_map, List.length_range]; exact hn, by
      rw [List.map_map]
      have e : (List.range n).map ((·.1) ∘ fun a => (a, if a ∈ seen then sayP k true else finM n k (seen ++ [a]))) = List.range n := by
        refine List.ext_getElem? fun i => ?_
        rw [List.getElem?_map]
        cases (List.range n)[i]? <;> rfl
      exact Eq.mpr (congrArg List.Nodup e) List.nodup_range, fun q hq => by
      obtain ⟨a, ha, rfl⟩ := List.mem_map.mp hq
      show okP k (if a ∈ seen then sayP k true else finM n k (seen ++ [a]))
      split
      · exact ok_say k true
      · exact finM_ok hn k _⟩
theorem find_up {n c s : Nat} (C : Cell n c s) : ∃ p : Py 5, plD 5 p = plD c (finM n c []) ∧ PlOk n s p ∧ chP n 0 5 t0 p = c1R n c ∧ chP n s 5 t0 p = c2R n s c := by
  obtain ⟨p, h1, h2, h3, h4⟩ := to5 C.c5 (finM n c []) (finM_ok (Nat.le_of_lt C.n60) c [])
  refine ⟨p, h1, ⟨h3, ?_, ?_, ?_⟩, h4 .., h4 ..⟩
  · rw [h2]; exact Nat.le_trans C.cl C.c5
  · rw [h2, h4, h4]; exact C.fd1
  · rw [h2, h4, h4]; exact C.fd2
theorem drawn_up {n c s : Nat} (C : Cell n c s) (q : Py 2) (ho : okP 2 q) : ∃ p : Py 5, plD 5 p = plD 2 q ∧ PlOk n s p := by
  obtain ⟨p, h1, h2, h3, h4⟩ := to5 (by decide) q ho
  refine ⟨p, h1, h3, ?_, ?_, ?_⟩
  · rw [h2]; exact Nat.le_trans (clP_bd 2 q) (by decide)
  · rw [h2, h4, h4]; exact Rat.not_lt.mpr (drawn_close C.n_in q)
  · rw [h2, h4, h4]; exact Rat.not_lt.mpr (drawn_close C.n_in q)
end Tn
set_option Elab.async false
set_option linter.all false
set_option maxRecDepth 100000
set_option maxHeartbeats 8000000
set_option pp.maxSteps 400
namespace Tn
open PySem PySem.Spec L2
local macro_rules | `(tactic| walk_at "tz") => `(tactic| first
  | ((refine' Tz.same ?s); (case s => with_reducible assumption))
  | ((refine' Tz.but ?b ?h ?n); (case b => with_reducible assumption); (case h => walk_at "look"); (case n => (intro o v z; cases z))))
local macro_rules | `(tactic| walk_at "fz") => `(tactic| first
  | ((refine' Fz.same ?s); (case s => with_reducible assumption))
  | ((refine' Fz.but ?b ?h ?n); (case b => with_reducible assumption); (case h => walk_at "look"); (case n => first | exact nf_lst | exact nf_dK | exact nf_ext | assumption)))
local macro_rules | `(tactic| walk_at "look") => `(tactic| first
  | with_reducible assumption
  | ((with_reducible refine' Same.app ?s ?m); (case s => with_reducible assumption); (case m => walk_at "look"))
  | ((with_reducible refine' RR.fz ?z ?m); (case z => walk_at "fz"); (case m => walk_at "look"))
  | ((with_reducible refine' Rp.tz ?z ?m); (case z => walk_at "tz"); (case m => walk_at "look"))
  | ((with_reducible refine' TU.tz ?z ?m); (case z => walk_at "tz"); (case m => walk_at "look"))
  | ((with_reducible refine' RpL.tz ?z ?m); (case z => walk_at "tz"); (case m => walk_at "look"))
  | ((with_reducible refine' GM.fz ?z ?m); (case z => walk_at "fz"); (case m => walk_at "look"))
  | ((with_reducible refine' But.app' ?b ?n ?m); (case b => with_reducible assumption); (case n => first | assumption | (refine Ne.symm ?_; assumption)); (case m => walk_at "look"))
  | ((with_reducible refine' But.app ?b ?l ?d ?m); (case b => with_reducible assumption); (case m => walk_at "look"); (case l => walk_at "look"); (case d => (intro z; cases z))))
local macro_rules | `(tactic| walk_at "rp") => `(tactic| first
  | (with_reducible assumption)
  | walk_at "look"
  | exact Rp.bl _ | exact Rp.int _ | exact Rp.str _ | exact Rp.non
  | ((refine' Rp.tup ?h ?l); (case h => walk_at "look"); (case l => walk_at "rpl")))
local macro_rules | `(tactic| walk_at "rpl") => `(tactic| first
  | exact RpL.nil
  | ((refine' RpL.cons ?h ?l); (case h => walk_at "rp"); (case l => walk_at "rpl")))
local macro_rules | `(tactic| walk_at "vc") => `(tactic| repeat (first
  | with_reducible refine' x_seq ?_
  | with_reducible refine' x_ifS ?_
  | with_reducible refine' x_asg ?_
  | with_reducible refine' x_drop ?_
  | with_reducible refine' x_ret ?_
  | with_reducible refine' x_name ?_
  | with_reducible refine' x_c ?_
  | ((with_reducible refine' x_var ?h ?_); (case h => rfl))
  | with_reducible refine' x_op ?_
  | with_reducible refine' x_un ?_
  | with_reducible refine' x_tup ?_
  | with_reducible refine' x_lst ?_
  | ((with_reducible refine' x_gtup ?h ?l ?_); (case h => walk_at "look"); (case l => rfl))
  | ((with_reducible refine' x_gtup' ?h ?l ?_); (case h => walk_at "look"); (case l => rfl))
  | with_reducible refine' x_gcons ?_
  | with_reducible refine' x_gnil ?_
  | with_reducible refine' x_nil ?_
  | with_reducible refine' x_cons ?_
  | with_reducible refine' x_call ?_
  | with_reducible refine' x_meth ?_
  | ((with_reducible refine' x_methv ?h ?l ?_); (case h => walk_at "look"); (case l => first | rfl | decide +kernel))
  | with_reducible refine' x_make ?_
  | with_reducible refine' x_cb ?_
  | with_reducible refine' x_test ?_
  | with_reducible refine' x_B ?_
  | with_reducible refine' x_and ?_
  | with_reducible refine' x_or ?_
  | with_reducible refine' x_not ?_
  | with_reducible refine' x_if ?_
  | with_reducible refine' x_andV ?_
  | with_reducible refine' x_orV ?_
  | with_reducible refine' x_notV ?_
  | with_reducible refine' x_next ?_
  | with_reducible refine' x_gfldc ?_
  | with_reducible refine' x_bmF ?_
  | with_reducible refine' x_bmF0 ?_
  | ((with_reducible refine' y_tyL ?h ?_); (case h => walk_at "look"))
  | ((with_reducible refine' y_tyD ?h ?_); (case h => walk_at "look"))
  | ((with_reducible refine' y_lenL ?h ?_); (case h => walk_at "look"))
  | ((with_reducible refine' y_lenR ?h ?_); (case h => walk_at "look"))
  | with_reducible refine' x_forT ?_
  | with_reducible refine' x_forL ?_
  | with_reducible refine' x_lcT ?_
  | with_reducible refine' x_lcL ?_
  | ((with_reducible refine' y_tupleL ?h ?_); (case h => walk_at "look"); intro _ _ _ _ _)
  | ((with_reducible refine' y_tupleR ?h ?_); (case h => walk_at "look"))
  | ((with_reducible refine' y_tupleT ?h ?_); (case h => walk_at "look"))
  | with_reducible refine' x_cont ?_
  | with_reducible refine' x_dget ?_
  | with_reducible refine' x_din ?_
  | with_reducible refine' x_dput ?_
  | ((with_reducible refine' x_dnewN ?_); intro _ _ _ _ _)
  | with_reducible refine' x_nget2 ?_
  | with_reducible refine' x_nput ?_
  | with_reducible refine' x_lcN ?_
  | with_reducible refine' x_lcKF ?_
  | with_reducible refine' x_itemsN ?_
  | ((with_reducible refine' x_dnewK ?_); intro _ _ _ _ _)
  | with_reducible refine' x_forRev ?_
  | with_reducible refine' x_sl ?_
  | with_reducible refine' x_nopart ?_
  | with_reducible refine' x_part ?_
  | with_reducible refine' x_partI ?_
  | with_reducible refine' x_revL ?_
  | with_reducible refine' x_sfldc ?_
  | with_reducible refine' x_bl ?_
  | ((with_reducible refine' x_fldc ?h ?l ?_); (case h => walk_at "look"); (case l => first | rfl | decide +kernel))
  | ((with_reducible refine' x_setc ?h ?l ?_); (case h => walk_at "look"); (case l => exact Nat.le_of_ble_eq_true rfl); intro _ _ _)
  | ((with_reducible refine' y_num ?h ?_); (case h => walk_at "look"))
  | ((with_reducible refine' y_den ?h ?_); (case h => walk_at "look"))
  | with_reducible refine' y_I0 ?_
  | ((with_reducible refine' y_ixS ?h ?e ?a ?_); (case h => walk_at "look"); (case e => rfl); (case a => rfl))
  | ((with_reducible refine' y_ixI ?h ?e ?a ?_); (case h => walk_at "look"); (case e => rfl); (case a => rfl))
  | ((with_reducible refine' y_ixB ?h ?e ?a ?_); (case h => walk_at "look"); (case e => rfl); (case a => rfl))
  | ((with_reducible refine' y_ixR ?h ?e ?a ?_); (case h => walk_at "look"); (case e => rfl); (case a => rfl); intro _ _)
  | ((with_reducible refine' y_ixT ?h ?a ?_); (case h => walk_at "look"); (case a => rfl))
  | ((with_reducible refine' y_eq ?s ?_); (case s => rfl))
  | ((with_reducible refine' y_ne ?s ?_); (case s => rfl))
  | ((with_reducible refine' x_rtup ?l ?_); (case l => exact Nat.le_of_ble_eq_true rfl); intro _ _ _ _ _)
  | ((with_reducible refine' x_rlst ?l ?_); (case l => exact Nat.le_of_ble_eq_true rfl); intro _ _ _ _ _)
  | ((with_reducible refine' ite_t ?h ?_); (case h => first | with_reducible rfl | assumption | exact decide_eq_true (by omega) | decide +kernel | rfl))
  | ((with_reducible refine' ite_f ?h ?_); (case h => first | with_reducible rfl | assumption | exact decide_eq_false (by omega) | decide +kernel | rfl))))
section
variable {P : Program} {w : World} {K : PySem.W.Frag} {mg : Str → Option Value} {base : Heap}
theorem y_mkDer {H : Hp} {Q : VK} {g : V} (q : ∀ p dx b H', Same H H' → H p = none → H' p = some (.ins (He.ga K "Derivation") dx (derF g g b)) → BdAt K H' b 0 0 0 → Q (.ref p) H') : rMake (He.ga K "Derivation") (sp_Derivation_init K) [g] H Q := by
  intro x dx hx hdx ne
  have sx : Same H (upd (upd H dx (.own x)) x (.ins (He.ga K "Derivation") dx [])) := fun c o e => by
    rw [upd_ne (ne_of_none e hx), upd_ne (ne_of_none e hdx)]
    exact e
  exact ⟨x, dx, g, rfl, upd_same, fun H' b b1 e1 hb => ⟨rfl, q x dx b H' (Same.but sx hx b1) hx e1 hb⟩⟩
theorem ok_law (T : Tx K mg) {fd : FuncData} (F : FnX K d_law fd) : FnOk P w K mg base CX0 30 (He.fAd K d_law.at_) fd ["_law_script"] (spLaw K) := by
  refine F.ok sc_law (fun vs H Q E h => ?_) (fun cdv A outer s0 H vs Q E hr h => ?_)
  · obtain ⟨l, ns, rfl, _⟩ := h
    rfl
  obtain ⟨l, ns, rfl, hs, q⟩ := h
  have hc5 := cc_le (cellN ns)
  generalize hx : cellN ns = x at hc5
  refine ⟨_, PSs.nox (pss_cons (ps_set (i := 1) sc_law.nd rfl (Or.inl rfl) (pe_callB call_abs (by rfl) T.f_abs (by decide +kernel) (pa_cons (pe_cal (c_l_cell T) (hr.mono (by omega)) rfl T.g_l_cell (pa_cons (pv 0) (pa_cons pe_int pa_nil))) pa_nil)))
      (pss_cons (ps_set (i := 2) sc_law.nd rfl (Or.inl rfl) (pe_op op_add pe_int (pe_op op_mod (pe_callTy call_int1 (by rfl) T.f_int (by decide +kernel) (pa_cons (pv 1) pa_nil)) pe_int)))
      (pss_cons (ps_set (i := 3) sc_law.nd rfl (Or.inl rfl) (pe_op op_mod (pe_op op_fdiv (pe_callTy call_int1 (by rfl) T.f_int (by decide +kernel) (pa_cons (pv 1) pa_nil)) pe_int) pe_int))
      (pss_mid (ps_if (pt_cmpR op_lt (pv 2) pe_int (nomark _)) (pss_one (ps_set (i := 3) sc_law.nd rfl (Or.inl rfl) (pe_op op_mod (pe_op op_fdiv (pe_callTy call_int1 (by rfl) T.f_int (by decide +kernel) (pa_cons (pv 1) pa_nil)) pe_int) pe_int))) pss_nil)
      (pss_cons (ps_set (i := 4) sc_law.nd rfl (Or.inl rfl) (pe_cal (c_l_game T) (hr.mono (by omega)) rfl T.g_l_game (pa_cons (pv 2) (pa_cons pe_int pa_nil))))
      (pss_cons (ps_set (i := 5) sc_law.nd rfl (Or.inl rfl) (pe_cal (c_l_game T) (hr.mono (by omega)) rfl T.g_l_game (pa_cons (pv 2) (pa_cons (pe_op op_mod (pe_op op_fdiv (pe_callTy call_int1 (by rfl) T.f_int (by decide +kernel) (pa_cons (pv 1) pa_nil)) pe_int) (pv 2)) pa_nil))))
      (pss_cons (ps_set (i := 6) sc_law.nd rfl (Or.inl rfl) (pe_mkc (c_Derivation_init T) T.mk_Derivation (hr.mono (by omega)) rfl T.g_Derivation (pa_cons (pv 4) pa_nil)))
      (pss_mid (ps_expr (pe_metc (c_Derivation_step T) (pv 6) T.cl_Derivation T.m_Derivation_step (hr.mono (by omega)) (pa_cons (pe_tupF (pa_cons pe_str (pa_cons (pv 5) pa_nil))) pa_nil)))
      (pss_cons (ps_set (i := 7) sc_law.nd rfl (Or.inl rfl) (pe_fldc T.cl_Derivation T.n_Derivation_bound (pv 6)))
      (pss_cons (ps_set (i := 8) sc_law.nd rfl (Or.inl rfl) (pe_callB (call_min2 rfl) (by rfl) T.f_min (by decide +kernel) (pa_cons (pe_op op_mul (pe_op op_mul pe_int pe_int) (pv 2)) (pa_cons (pe_op op_mul (pv 3) (pe_op op_sub (pv 3) pe_int)) pa_nil))))
      (pss_mid (ps_if (PW.pt (pw_or (pt_cmpR (op_ownNe (m := "") (c_Ratio_eq T) T.m_Ratio_eq T.ne_Ratio (isi_mro T.exs.2.1) (hr.mono (by omega))) (pe_metc (c_Bound_at T) (pv 7) T.cl_Bound T.m_Bound_at (hr.mono (by omega)) (pa_cons (pv 3) pa_nil)) (pe_mkc (c_Ratio_init T) T.mk_Ratio (hr.mono (by omega)) rfl T.g_Ratio (pa_cons (pv 8) (pa_cons (pe_op op_mul pe_int (pv 2)) pa_nil))) (nomark _)) (pw_or (pt_cmpR op_notN (pe_fldc T.cl_Bound T.n_Bound_limit (pv 7)) pe_non (nomark _)) (pw_or1 (pt_cmpR (op_ownNe (m := "") (c_Game_eq T) T.m_Game_eq T.ne_Game (isi_mro T.exs.2.2.1) (hr.mono (by omega))) (pe_fldc T.cl_Derivation T.n_Derivation_last (pv 6)) (pv 5) (nomark _)))))) (pss_one (ps_ret pe_bl)) pss_nil)
      (pss_cons (ps_set (i := 9) sc_law.nd rfl (Or.inl rfl) (pe_tupF (pa_cons pe_int (pa_cons pe_int pa_nil))))
      (pss_cons (ps_for PassesOwn.never rfl (pi_range1 rfl T.f_range (pa_cons (pv 3) pa_nil)) (pg_name (i := 10) sc_law.nd rfl (Or.inl rfl)) (pss_one (ps_set (i := 9) sc_law.nd rfl (Or.inl rfl) (pe_cal (c_l_times T) (hr.mono (by omega)) rfl T.g_l_times (pa_cons (pv 9) (pa_cons (pe_tupF (pa_cons (pe_callB (call_max2 rfl) (by rfl) T.f_max (by decide +kernel) (pa_cons pe_int (pa_cons (pe_op op_sub (pv 2) (pv 10)) pa_nil))) (pa_cons (pv 2) pa_nil))) pa_nil))))))
      (pss_mid (ps_set (i := 11) sc_law.nd rfl (Or.inl rfl) (pe_cal (c_l_finder T (cc x)) (hr.mono (by omega)) rfl T.g_l_finder (pa_cons (pv 2) (pa_cons (pv 3) (pa_cons (pe_lst pa_nil) pa_nil)))))
      (pss_cons (ps_if (pt_cmpR op_ne (pe_cal (c_calls_of T 5) (hr.mono (by omega)) rfl T.g_calls_of (pa_cons (pv 11) pa_nil)) (pe_cal (c_l_calls T 5) (hr.mono (by omega)) rfl T.g_l_calls (pa_cons (pv 11) pa_nil)) (nomark _)) (pss_one (ps_ret pe_bl)) pss_nil)
      (pss_cons (ps_if (pt_cmpR (op_ownNe (m := "") (c_Ratio_eq T) T.m_Ratio_eq T.ne_Ratio (isi_mro T.exs.2.1) (hr.mono (by omega))) (pe_cal (c_chance T 5) (hr.mono (by omega)) rfl T.g_chance (pa_cons (pv 4) (pa_cons (pv 11) pa_nil))) (pe_op (op_own (c_Ratio_sub T) T.m_Ratio_sub T.self_Ratio (hr.mono (by omega))) (pe_mkc (c_Ratio_init1 T) T.mk_Ratio (hr.mono (by omega)) rfl T.g_Ratio (pa_cons pe_int pa_nil)) (pe_mkc (c_Ratio_init T) T.mk_Ratio (hr.mono (by omega)) rfl T.g_Ratio (pa_cons (pe_ix ix_tupF (pv 9) pe_int (fun _ _ => rfl)) (pa_cons (pe_ix ix_tupF (pv 9) pe_int (fun _ _ => rfl)) pa_nil)))) (nomark _)) (pss_one (ps_ret pe_bl)) pss_nil)
      (pss_cons (ps_set (i := 12) sc_law.nd rfl (Or.inl rfl) (pe_cal (c_apart T (cc x)) (hr.mono (by omega)) rfl T.g_apart (pa_cons (pv 4) (pa_cons (pv 5) (pa_cons (pv 3) pa_nil)))))
      (pss_cons (ps_set (i := 13) sc_law.nd rfl (Or.inl rfl) (pe_op (op_own (c_Ratio_sub T) T.m_Ratio_sub T.self_Ratio (hr.mono (by omega))) (pe_cal (c_chance T 5) (hr.mono (by omega)) rfl T.g_chance (pa_cons (pv 4) (pa_cons (pv 11) pa_nil))) (pe_cal (c_chance T 5) (hr.mono (by omega)) rfl T.g_chance (pa_cons (pv 5) (pa_cons (pv 11) pa_nil)))))
      (pss_mid (ps_if (PW.pt (pw_or (pt_val (pe_metc (c_Ratio_below T) (pv 12) T.cl_Ratio T.m_Ratio_below (hr.mono (by omega)) (pa_cons (pv 13) pa_nil))) (pw_or (pt_val (pe_metc (c_Ratio_below T) (pv 12) T.cl_Ratio T.m_Ratio_below (hr.mono (by omega)) (pa_cons (pe_op (op_own (c_Ratio_sub T) T.m_Ratio_sub T.self_Ratio (hr.mono (by omega))) (pe_mkc (c_Ratio_init1 T) T.mk_Ratio (hr.mono (by omega)) rfl T.g_Ratio (pa_cons pe_int pa_nil)) (pv 13)) pa_nil))) (pw_or1 (pt_val (pe_metc (c_Ratio_below T) (pe_metc (c_Bound_at T) (pv 7) T.cl_Bound T.m_Bound_at (hr.mono (by omega)) (pa_cons (pv 3) pa_nil)) T.cl_Ratio T.m_Ratio_below (hr.mono (by omega)) (pa_cons (pv 12) pa_nil))))))) (pss_one (ps_ret pe_bl)) pss_nil)
      (pss_cons (ps_for PassesOwn.never rfl (pi_tup (pe_tupF (pa_cons (pv 11) (pa_cons (pe_cal (c_l_player T 2) (hr.mono (by omega)) rfl T.g_l_player (pa_cons (pe_callB call_abs (by rfl) T.f_abs (by decide +kernel) (pa_cons (pe_cal (c_l_cell T) (hr.mono (by omega)) rfl T.g_l_cell (pa_cons (pv 0) (pa_cons pe_int pa_nil))) pa_nil)) (pa_cons (pe_fldc T.cl_Game T.n_Game_procs (pv 4)) (pa_cons pe_int pa_nil)))) pa_nil)))) (pg_name (i := 14) sc_law.nd rfl (Or.inl rfl)) (pss_cons (ps_set (i := 15) sc_law.nd rfl (Or.inl rfl) (pe_cal (c_chance T 5) (hr.mono (by omega)) rfl T.g_chance (pa_cons (pv 4) (pa_cons (pv 14) pa_nil))))
      (pss_cons (ps_set (i := 16) sc_law.nd rfl (Or.inl rfl) (pe_cal (c_chance T 5) (hr.mono (by omega)) rfl T.g_chance (pa_cons (pv 5) (pa_cons (pv 14) pa_nil))))
      (pss_cons (ps_set (i := 12) sc_law.nd rfl (Or.inl rfl) (pe_metc (c_Bound_at T) (pv 7) T.cl_Bound T.m_Bound_at (hr.mono (by omega)) (pa_cons (pe_cal (c_l_calls T 5) (hr.mono (by omega)) rfl T.g_l_calls (pa_cons (pv 14) pa_nil)) pa_nil)))
      (pss_one (ps_if (PW.pt (pw_or (pt_val (pe_metc (c_Ratio_below T) (pv 12) T.cl_Ratio T.m_Ratio_below (hr.mono (by omega)) (pa_cons (pe_op (op_own (c_Ratio_sub T) T.m_Ratio_sub T.self_Ratio (hr.mono (by omega))) (pv 15) (pv 16)) pa_nil))) (pw_or1 (pt_val (pe_metc (c_Ratio_below T) (pv 12) T.cl_Ratio T.m_Ratio_below (hr.mono (by omega)) (pa_cons (pe_op (op_own (c_Ratio_sub T) T.m_Ratio_sub T.self_Ratio (hr.mono (by omega))) (pv 16) (pv 15)) pa_nil)))))) (pss_one (ps_ret pe_bl)) pss_nil))))))
      (pss_one (ps_ret pe_bl)))))))))))))))))))))), ?_⟩
  walk_at "vc"
  refine ⟨l, ns, 0, rfl, hs, ?_⟩
  walk_at "vc"
  refine ⟨_, rfl, ?_⟩
  have habs : (if L2.cellOf ns 0 < 0 then -L2.cellOf ns 0 else L2.cellOf ns 0) = (x : Int) := by rw [← hx]; unfold cellN; split <;> omega
  rw [habs]
  walk_at "vc"
  refine .inl ⟨_, rfl, ?_⟩
  walk_at "vc"
  refine y_I (by decide : (0 : Int) < 5) ?_
  walk_at "vc"
  refine .inl ⟨_, rfl, ?_⟩
  walk_at "vc"
  refine y_I (show CDiv _ 5 from ⟨by decide, by decide⟩) ?_
  walk_at "vc"
  refine y_I (by decide : (0 : Int) < 4) ?_
  walk_at "vc"
  refine x_mid (fun σ' H' => H = H' ∧ σ' = [some (.ref l), some (.int (x : Nat)), some (.int (cn x : Nat)), some (.int (cc x : Nat)), none, none, none, none, none, none, none, none, none, none, none, none, none]) ?_ ?_
  · refine x_ifS ?_
    walk_at "vc"
    have en : (2 : Int) + (x : Int) % 5 = ((cn x : Nat) : Int) := by unfold cn; omega
    refine ite_c (fun h4 => ?_) (fun h4 => ?_)
    · have h4' := of_decide_eq_true h4
      have ec : (x : Int) / 5 % 6 = ((cc x : Nat) : Int) := by unfold cc; rw [if_pos (by omega)]; omega
      walk_at "vc"
      refine .inl ⟨_, rfl, ?_⟩
      walk_at "vc"
      refine y_I (show CDiv _ 5 from ⟨by decide, by decide⟩) ?_
      walk_at "vc"
      refine y_I (by decide : (0 : Int) < 6) ?_
      walk_at "vc"
      rw [en, ec]
      exact ⟨rfl, rfl⟩
    · have h4' := of_decide_eq_false h4
      have ec : (x : Int) / 5 % 4 = ((cc x : Nat) : Int) := by unfold cc; rw [if_neg (by omega)]; omega
      walk_at "vc"
      rw [en, ec]
      exact ⟨rfl, rfl⟩
  rintro σ' H' ⟨rfl, rfl⟩
  walk_at "vc"
  refine ⟨cn x, 0, rfl, fun g1 H1 s1 m1 => ?_⟩
  have m1 : GM K H1 g1 (cn x) 0 := m1
  walk_at "vc"
  refine .inl ⟨_, rfl, ?_⟩
  walk_at "vc"
  refine y_I (show CDiv _ 20 from ⟨by decide, by decide⟩) ?_
  walk_at "vc"
  have hcn : 0 < cn x := by unfold cn; omega
  refine y_I (show (0 : Int) < ((cn x : Nat) : Int) by omega) ?_
  walk_at "vc"
  refine ⟨cn x, cs x, by unfold cs; rfl, fun g2 H2 s2 m2 => ?_⟩
  have m2 : GM K H2 g2 (cn x) (cs x) := m2
  walk_at "vc"
  refine y_mkDer fun pd dx b H3 s3 f3 e3 hb => ?_
  have e3 : H3 pd = some (.ins (He.ga K "Derivation") dx (derF g1 g1 b)) := e3
  have hb : BdAt K H3 b 0 0 0 := hb
  have fpd : H pd = none := free_of (s1.trans s2) f3
  have C := cell_facts x
  generalize cs x = s at *
  generalize cc x = c at *
  generalize cn x = n at *
  walk_at "vc"
  refine x_mid (fun σ' H' => ∃ b, Same H H' ∧ GM K H' g1 n 0 ∧ GM K H' g2 n s ∧ H' pd = some (.ins (He.ga K "Derivation") dx (derF g1 g2 b)) ∧ BdAt K H' b 0 0 (mkRat 1 n) ∧ σ' = [some (.ref l), some (.int (x : Nat)), some (.int (n : Nat)), some (.int (c : Nat)), some g1, some g2, some (.ref pd), none, none, none, none, none, none, none, none, none, none]) ?_ ?_
  · walk_at "vc"
    rename_i t4 H4 f4 s4 e4
    have m1' := m1.fz (Fz.same (K := K) (s2.trans (s3.trans s4)))
    have m2' := m2.fz (Fz.same (K := K) (s3.trans s4))
    have hbm := hb.fz (Fz.same (K := K) s4)
    refine ⟨pd, dx, t4, g1, g1, b, g2, n, 0, s, rfl, s4 _ _ e3, e4, m1', m2', hbm, C.n0, C.n60, fun H5 b5 bt5 e5 hb5 => ?_⟩
    have z5 : Fz K H4 H5 := Fz.but bt5 (s4 _ _ e3) T.nf_Derivation
    walk_at "vc"
    exact ⟨b5, Same.but (((s1.trans s2).trans s3).trans s4) fpd bt5, m1'.fz z5, m2'.fz z5, e5, hb5, rfl⟩
  clear hb e3 s3 f3 m1 m2 s2 s1
  rintro σ' H' ⟨b5, sH, m1, m2, e5, hb5, rfl⟩
  obtain ⟨pb, dxb, a1, a2, a3, rfl, hpb, _⟩ := id hb5
  walk_at "vc"
  refine y_I (cm_of (by decide)) ?_
  walk_at "vc"
  refine y_I (cm_of (by decide)) ?_
  walk_at "vc"
  have hc5' := C.c5
  have hn60 := C.n60
  refine y_I (cm_of (by omega)) ?_
  walk_at "vc"
  refine ⟨_, _, rfl, ?_⟩
  rw [due_eq C.c5]
  have hdl := due_le n c
  have hdue := C.due
  generalize min (2 * n) (c * (c - 1)) = due at hdl hdue ⊢
  walk_at "vc"
  refine x_mid (fun σ' H'' => Same H' H'' ∧ σ' = [some (.ref l), some (.int (x : Nat)), some (.int (n : Nat)), some (.int (c : Nat)), some g1, some g2, some (.ref pd), some (.ref pb), some (.int (due : Nat)), none, none, none, none, none, none, none, none]) ?_ ?_
  · refine x_ifS ?_
    walk_at "vc"
    refine ⟨_, 0, 0, mkRat 1 n, c, rfl, hb5, C.ao c C.c5, fun v1 H4 s4 h1 => ?_⟩
    walk_at "vc"
    refine y_I (cm_of (by decide)) ?_
    walk_at "vc"
    have e2n : ((2 : Int) * (n : Int)).toNat = 2 * n := by omega
    refine y_mkR' (r := mkRat ((due : Nat) : Int) (2 * n)) (by omega) (by omega) (by omega) (by rw [e2n]) fun v2 H5 s5 h2 => ?_
    walk_at "vc"
    refine y_rne (h1.same s5) h2 ?_
    walk_at "vc"
    refine ite_f (by rw [show atR 0 0 (mkRat 1 n) c = _ from hdue]; simp) ?_
    have s45 := s4.trans s5
    have hpb2 := s45 _ _ hpb
    have e52 := s45 _ _ e5
    have m22 := m2.same s45
    obtain ⟨gp, dxg, ga, gb, gc, gd, rfl, hgp, _⟩ := id m22
    walk_at "vc"
    refine ⟨rfl, ?_⟩
    walk_at "vc"
    refine ⟨gp, gp, dxg, dxg, _, _, rfl, rfl, hgp, hgp, _, _, n, s, rfl, m22, m22, fun H6 s6 => ⟨true, rfl, ?_⟩⟩
    walk_at "vc"
    exact ⟨s45.trans s6, rfl⟩
  rintro σ' H3' ⟨s3', rfl⟩
  have sH2 := sH.trans s3'
  replace m1 := m1.same s3'
  replace m2 := m2.same s3'
  replace hb5 := hb5.same s3'
  replace hpb := s3' _ _ hpb
  walk_at "vc"
  rename_i tu H4 f4 s4 t4
  refine y_forI (n := (c : Int)) (by omega) (by omega) (fun i σ' H' => Same H3' H' ∧ ∃ (t : Addr) (z : Option V), TU H' t [.int (unl n i).num, .int ((unl n i).den : Nat)] ∧ σ' = [some (.ref l), some (.int (x : Nat)), some (.int (n : Nat)), some (.int (c : Nat)), some g1, some g2, some (.ref pd), some (.ref pb), some (.int (due : Nat)), some (.ref t), z, none, none, none, none, none, none]) ?h0 ?hs ?hd (fun Q q => ?ha)
  case h0 => exact ⟨s4, tu, none, t4, rfl⟩
  case ha =>
    walk_at "vc"
    exact q
  case hs =>
    rintro i σ' H' hi ⟨sI, t, z, ht, rfl⟩
    walk_at "vc"
    refine ⟨_, _, rfl, ?_⟩
    have emax : (if (n : Int) - (i : Int) > 0 then (n : Int) - (i : Int) else 0) = ((n - i : Nat) : Int) := by split <;> omega
    rw [emax]
    walk_at "vc"
    rename_i u5 H5 f5 s5 t5
    obtain ⟨k1, k2⟩ := C.un i (by omega)
    refine ⟨t, u5, unl n i, n - i, n, rfl, ht.same s5, t5, C.n0, k1, by omega, k2, fun t6 H6 s6 ht6 => ?_⟩
    walk_at "vc"
    exact ⟨(sI.trans s5).trans s6, t6, some (.int (i : Nat)), ht6, rfl⟩
  rintro σ' H5 ⟨s5, tw, zk, htw, rfl⟩
  have ec : ((c : Int)).toNat = c := Int.toNat_natCast c
  rw [ec] at htw
  replace m1 := m1.same s5
  replace m2 := m2.same s5
  replace hb5 := hb5.same s5
  replace hpb := s5 _ _ hpb
  have sH5 := sH2.trans s5
  walk_at "vc"
  refine x_mid (fun σ' H6 => ∃ vf, Same H5 H6 ∧ Rp H6 vf (plD c (finM n c [])) ∧ σ' = [some (.ref l), some (.int (x : Nat)), some (.int (n : Nat)), some (.int (c : Nat)), some g1, some g2, some (.ref pd), some (.ref pb), some (.int (due : Nat)), some (.ref tw), zk, some vf, none, none, none, none, none]) ?_ ?_
  · walk_at "vc"
    rename_i l6 H6 f6 s6 e6
    refine ⟨n, c, l6, [], rfl, e6, by simp, C.n8, by have := C.c5; omega, fun v H7 s7 h7 => ?_⟩
    walk_at "vc"
    exact ⟨v, s6.trans s7, h7, rfl⟩
  rintro σ' H6 ⟨vf, s6, hvf, rfl⟩
  walk_at "vc"
  obtain ⟨pf, hpf, okf, ef1, ef2⟩ := find_up C
  have hvf5 : Rp H6 vf (plD 5 pf) := by rw [hpf]; exact hvf
  obtain ⟨u1, u2, u3, u4⟩ := okf.sm C.n0 C.dd
  replace m1 := m1.same s6
  replace m2 := m2.same s6
  replace hb5 := hb5.same s6
  replace hpb := s6 _ _ hpb
  replace htw := htw.same s6
  have sH6 := sH5.trans s6
  refine ⟨vf, pf, rfl, hvf5, okf.1, fun H7 s7 => ?_⟩
  walk_at "vc"
  refine ⟨vf, pf, rfl, hvf5.same s7, okf.1, fun H8 s8 => ?_⟩
  have s68 := s7.trans s8
  have m1a := m1.same s68
  have hva := hvf5.same s68
  have htwa := htw.same s68
  walk_at "vc"
  refine ite_f (by simp) ?_
  walk_at "vc"
  refine ⟨g1, vf, pf, n, 0, rfl, m1a, hva, okf.1, by decide, C.n0, C.n60, by decide, C.dd, fun r9 H9 s9 h9 => ?_⟩
  walk_at "vc"
  refine y_mkR' (r := 1) (by decide) (by decide) (by decide) (by decide +kernel) fun v10 H10 s10 h10 => ?_
  have htwb := (htwa.same s9).same s10
  walk_at "vc"
  refine y_mkR' (r := unl n c) (by have := (unl n c).den_pos; omega) (Nat.lt_trans C.su.1 (by decide)) (by rw [den_abs]; exact Nat.lt_trans C.su.2 (by decide)) (by rw [Int.toNat_natCast]; exact Rat.mkRat_self _) fun v11 H11 s11 h11 => ?_
  walk_at "vc"
  refine y_rop (h10.same s11) h11 (by decide +kernel) C.su fun v12 H12 s12 h12 => ?_
  walk_at "vc"
  refine y_rne (((h9.same s10).same s11).same s12) h12 ?_
  walk_at "vc"
  refine ite_f (by rw [show chP n 0 5 ([], false) pf = _ from ef1.trans C.one]; simp) ?_
  have s6c : Same H6 H12 := (((s68.trans s9).trans s10).trans s11).trans s12
  obtain ⟨g, g', ll, ll', eb1, eb2, nm1, nm2, nm3, sm1, sm2, sm3, sm4, sm5⟩ := C.most
  walk_at "vc"
  refine ⟨g1, g2, n, 0, s, n ^ c, g, g', ll, ll', rfl, m1.same s6c, m2.same s6c, C.n0, C.n60, by decide, C.s6, C.nc0, C.nc, eb1, eb2, fun vm H13 s13 hm _ => ?_⟩
  have s6d := s6c.trans s13
  walk_at "vc"
  refine ⟨g1, vf, pf, n, 0, rfl, m1.same s6d, hvf5.same s6d, okf.1, by decide, C.n0, C.n60, by decide, C.dd, fun r14 H14 s14 h14 => ?_⟩
  have s6e := s6d.trans s14
  walk_at "vc"
  refine ⟨g2, vf, pf, n, s, rfl, m2.same s6e, hvf5.same s6e, okf.1, by decide, C.n0, C.n60, C.s6, C.dd, fun r15 H15 s15 h15 => ?_⟩
  have s6f := s6e.trans s15
  walk_at "vc"
  refine y_rop (h14.same s15) h15 u1 u2 fun vg H16 s16 hg => ?_
  have s6g := s6f.trans s16
  replace hm : RR K H16 vm _ := ((hm.same s14).same s15).same s16
  replace hg : RR K H16 vg (chP n 0 5 t0 pf - chP n s 5 t0 pf) := hg
  rw [ef1, ef2] at hg
  generalize mkRat (if g < g' then g' else g) (n ^ c) = rm at hm nm1 nm2 nm3 sm1
  replace m1 := m1.same s6g
  replace m2 := m2.same s6g
  replace hb5 := hb5.same s6g
  replace hpb := s6g _ _ hpb
  replace hvf5 := hvf5.same s6g
  have sH16 := sH6.trans s6g
  clear s6g s6f s6e s6d s6c s16 s15 s14 s13 s12 s11 s10 s9 s8 s7 h9 h10 h11 h12 h14 h15 s68 m1a hva htwa htwb
  walk_at "vc"
  refine x_mid (fun σ' H' => Same H16 H' ∧ σ' = [some (.ref l), some (.int (x : Nat)), some (.int (n : Nat)), some (.int (c : Nat)), some g1, some g2, some (.ref pd), some (.ref pb), some (.int (due : Nat)), some (.ref tw), zk, some vf, some vm, some vg, none, none, none]) ?_ ?_
  · refine x_ifS ?_
    obtain ⟨pm, dxm, rfl, hpm⟩ := id hm
    walk_at "vc"
    refine ⟨_, _, rm, _, rfl, hm, hg, sm1, sm2, ?_⟩
    walk_at "vc"
    refine y_mkR' (r := 0) (by decide) (by decide) (by decide) (by decide +kernel) fun v17 H17 s17 h17 => ?_
    walk_at "vc"
    refine y_rop h17 (hg.same s17) (by decide +kernel) sm2 fun v18 H18 s18 h18 => ?_
    have s78 := s17.trans s18
    have hm8 := hm.same s78
    have hb8 := hb5.same s78
    have hpb8 := s78 _ _ hpb
    refine ⟨_, _, rm, _, rfl, hm8, h18, sm1, sm3, ?_⟩
    walk_at "vc"
    refine ⟨_, 0, 0, mkRat 1 n, c, rfl, hb8, C.ao c C.c5, fun v19 H19 s19 h19 => ?_⟩
    have h19 : RR K H19 v19 (bdR n c) := h19
    obtain ⟨pw, dxw, rfl, hpw⟩ := id h19
    walk_at "vc"
    refine ⟨_, _, _, rm, rfl, h19, hm8.same s19, C.sb c C.c5, sm1, ?_⟩
    walk_at "vc"
    exact ⟨s78.trans s19, rfl⟩
  rintro σ' H17 ⟨s17, rfl⟩
  replace m1 := m1.same s17
  replace m2 := m2.same s17
  replace hb5 := hb5.same s17
  replace hpb := s17 _ _ hpb
  replace hvf5 := hvf5.same s17
  have sH17 := sH16.trans s17
  walk_at "vc"
  refine ⟨l, ns, 1, rfl, sH17.seq hs, ?_⟩
  walk_at "vc"
  refine ⟨_, rfl, ?_⟩
  have h0 : 0 ≤ (if L2.cellOf ns 1 < 0 then -L2.cellOf ns 1 else L2.cellOf ns 1) := by split <;> omega
  generalize (if L2.cellOf ns 1 < 0 then -L2.cellOf ns 1 else L2.cellOf ns 1) = y at h0 ⊢
  obtain ⟨pg, dxg, ga, gb, gc, gd, rfl, hgp, ka, kb, kc, kd⟩ := id m1
  walk_at "vc"
  refine ⟨y, gd, n, 0, rfl, h0, C.n8, kd, fun vq H18 pq s18 hq okq => ?_⟩
  obtain ⟨pp, hpp, okp⟩ := drawn_up C pq okq
  have hvq5 : Rp H18 vq (plD 5 pp) := by rw [hpp]; exact hq
  replace m1 := m1.same s18
  replace m2 := m2.same s18
  replace hb5 := hb5.same s18
  replace hpb := s18 _ _ hpb
  replace hvf5 := hvf5.same s18
  walk_at "vc"
  rename_i t19 H19 f19 s19 e19
  replace m1 := m1.same s19
  replace m2 := m2.same s19
  replace hb5 := hb5.same s19
  replace hpb := s19 _ _ hpb
  replace hvf5 := hvf5.same s19
  replace hvq5 := hvq5.same s19
  refine y_forT e19 (fun i σ' H' => Same H19 H' ∧ ∃ (z12 z14 z15 z16 : Option V), σ' = [some (.ref l), some (.int (x : Nat)), some (.int (n : Nat)), some (.int (c : Nat)), some (.ref pg), some g2, some (.ref pd), some (.ref pb), some (.int (due : Nat)), some (.ref tw), zk, some vf, z12, some vg, z14, z15, z16]) ⟨fun _ _ e => e, _, _, _, _, rfl⟩ (fun i σ' H' _ z => e19.same z.1) ?_ ?_
  · rintro i xv σ' H' hi ⟨sI, z12, z14, z15, z16, rfl⟩
    obtain ⟨p, hxv, hok⟩ : ∃ p : Py 5, Rp H' xv (plD 5 p) ∧ PlOk n s p := by
      match i, hi with
      | 0, hi => cases hi; exact ⟨pf, hvf5.same sI, okf⟩
      | 1, hi => cases hi; exact ⟨pp, hvq5.same sI, okp⟩
      | i + 2, hi => simp at hi
    obtain ⟨u1, u2, u3, u4⟩ := hok.sm C.n0 C.dd
    walk_at "vc"
    refine ⟨.ref pg, xv, p, n, 0, rfl, m1.same sI, hxv, hok.1, by decide, C.n0, C.n60, by decide, C.dd, fun r1 H20 s20 h20 => ?_⟩
    walk_at "vc"
    refine ⟨g2, xv, p, n, s, rfl, (m2.same sI).same s20, hxv.same s20, hok.1, by decide, C.n0, C.n60, C.s6, C.dd, fun r2 H21 s21 h21 => ?_⟩
    have s2a := s20.trans s21
    have s2i := sI.trans s2a
    have hpb2 := s2i _ _ hpb
    walk_at "vc"
    refine ⟨xv, p, rfl, hxv.same s2a, hok.1, fun H22 s22 => ?_⟩
    walk_at "vc"
    refine ⟨_, 0, 0, mkRat 1 n, clP 5 p, rfl, (hb5.same s2i).same s22, C.ao _ hok.2.1, fun v23 H23 s23 h23 => ?_⟩
    have h23 : RR K H23 v23 (bdR n (clP 5 p)) := h23
    obtain ⟨pw, dxw, rfl, hpw⟩ := id h23
    have k1 := ((h20.same s21).same s22).same s23
    have k2 := (h21.same s22).same s23
    have s23i := (s2i.trans s22).trans s23
    walk_at "vc"
    refine y_rop k1 k2 u1 u2 fun v24 H24 s24 h24 => ?_
    walk_at "vc"
    refine ⟨_, _, _, _, rfl, h23.same s24, h24, C.sb _ hok.2.1, u3, ?_⟩
    walk_at "vc"
    refine ite_f (decide_eq_false hok.2.2.1) ?_
    walk_at "vc"
    refine y_rop (k2.same s24) (k1.same s24) u2 u1 fun v25 H25 s25 h25 => ?_
    walk_at "vc"
    refine ⟨_, _, _, _, rfl, (h23.same s24).same s25, h25, C.sb _ hok.2.1, u4, ?_⟩
    walk_at "vc"
    refine ite_f (decide_eq_false hok.2.2.2) ?_
    walk_at "vc"
    exact ⟨(s23i.trans s24).trans s25, _, _, _, _, rfl⟩
  · rintro σ' H' ⟨sI, z12, z14, z15, z16, rfl⟩
    walk_at "vc"
    exact q H'
end
end Tn
set_option Elab.async false
set_option linter.all false
set_option maxRecDepth 100000
set_option maxHeartbeats 0
namespace Tn
open PySem PySem.Spec PyProof.Rows L2
/-- the law's def, by its name -/
theorem law_at : LawAt := by
  intro P w K h mg f X G hfa c
  have T : Tx K mg := ⟨c, h, X, G⟩
  obtain ⟨fd, F⟩ := T.d_law
  have e := hfa.symm.trans T.g_law
  cases e
  have b := FunD.bindsA (ps := ["_law_script"]) F fun _ _ _ _ _ _ us hl => match us, hl with | [_], _ => rfl
  exact ⟨fd, fun s v => b s [v] rfl, fun base _ _ => ok_law T F⟩
end Tn
theorem PySem.Challenge.cw_tellsnone_k63_whole_numbers_that_come_tw_holds : PySem.Challenge.rw_tellsnone_k63_whole_numbers_that_come_tw.Holds := by
  exact Tn.holds_of Tn.law_at
