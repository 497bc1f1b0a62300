import PyProof.Rows.All
import Wide.All
import OpenK.AllK
import Wide.FinOn
import KE.KStateDown
import HandS.ForMost
import HandS.More
import HandS.Codes
import HandS.Defaults
import HandS.Head0
import HandS.Head1
import HandS.Head2
import HandS.HeadEnd
import HandS.HeadHook1
import HandS.HeadHook2
import HandS.Iter
import HandS.Walk
import KE.GoesEnum
import KE.GoesMore
import HandS.Dict
import HandS.Conv
import HandS.TupLen
import KE.KDictCopyH
import PyProof.DictMoreH
import HandS.Deep
import HandS.TupAny
import HandS.Rev
import HandS.Style
import HandS.ListItems
import HandS.IsInst
import HandS.Flow
import HandS.SetKeys
import HandS.Steps
import PySem.PyData
import KE.SortData
import HandS.Sort
import HandS.SortRule
import HandS.DictTup
import PySem.Challenge.RW_pilereach_k78_whole_places_for_ever
set_option Elab.async false
set_option linter.all false
set_option maxRecDepth 100000
set_option maxHeartbeats 4000000
namespace Pr
open PySem PySem.Spec PyProof.Rows L2
def top (i : Nat) : Stmt := PySem.Challenge.pw_pilereach_k78_whole_places_for_ever.main.body.getD i (.Pass ⟨0, 0, 0, 0⟩)
abbrev s_Rows___init__ : Stmt := inClass (top 1) 0
abbrev s_Rows_missing : Stmt := inClass (top 1) 1
abbrev s_Rows_add : Stmt := inClass (top 1) 3
abbrev s_Step___init__ : Stmt := inClass (top 7) 0
abbrev s_fits : Stmt := top 8
abbrev s_Machine___init__ : Stmt := inClass (top 9) 0
abbrev s_bodies : Stmt := top 12
abbrev s_Scope___init__ : Stmt := inClass (top 13) 0
abbrev s_Scope_has_variable : Stmt := inClass (top 13) 1
abbrev s_Scope_has_variables : Stmt := inClass (top 13) 2
abbrev s_Scope_is_right : Stmt := inClass (top 13) 3
abbrev s_Scope_are_right : Stmt := inClass (top 13) 4
abbrev s_Program___init__ : Stmt := inClass (top 14) 0
abbrev s_Point___init__ : Stmt := inClass (top 16) 0
abbrev s_Points___init__ : Stmt := inClass (top 17) 0
abbrev s_Points_add_body : Stmt := inClass (top 17) 1
abbrev s_Points_link : Stmt := inClass (top 17) 2
abbrev s_value_of : Stmt := top 19
abbrev s_with_value : Stmt := top 20
abbrev s_no_values : Stmt := top 21
abbrev s_Walker___init__ : Stmt := inClass (top 22) 0
abbrev s_Walker_entry_frame : Stmt := inClass (top 22) 1
abbrev s_Walker_goals : Stmt := inClass (top 22) 2
abbrev s_Walker_after : Stmt := inClass (top 22) 3
abbrev s_begin : Stmt := top 23
abbrev s_twos : Stmt := top 25
abbrev s_number_of : Stmt := top 26
abbrev s_values_of : Stmt := top 27
abbrev s_Coder___init__ : Stmt := inClass (top 28) 0
abbrev s_Coder_letter : Stmt := inClass (top 28) 1
abbrev s_Coder_pile : Stmt := inClass (top 28) 2
abbrev s_Coder_steps : Stmt := inClass (top 28) 3
abbrev s_machine_of : Stmt := top 29
abbrev s_configuration_of : Stmt := top 30
abbrev s_Heads___init__ : Stmt := inClass (top 32) 0
abbrev s_Heads_put : Stmt := inClass (top 32) 1
abbrev s_Heads_moves_from : Stmt := inClass (top 32) 2
abbrev s_Heads_reached : Stmt := inClass (top 32) 3
abbrev s_way_to : Stmt := top 33
abbrev s_TakeOff___init__ : Stmt := inClass (top 35) 0
abbrev s_TakeOff_entries : Stmt := inClass (top 35) 1
abbrev s_TakeOff_use : Stmt := inClass (top 35) 2
abbrev s_descents : Stmt := top 37
abbrev s_ring_at : Stmt := top 38
abbrev s_told_ranks : Stmt := top 39
abbrev s_told_moves : Stmt := top 40
abbrev s_endless : Stmt := top 41
abbrev s_letters_at : Stmt := top 43
abbrev s_place_marks : Stmt := top 44
abbrev s_passes_ever : Stmt := top 45
abbrev s__law_numbers : Stmt := top 47
abbrev s__law_pick : Stmt := top 48
abbrev s__law_variable : Stmt := top 49
abbrev s__law_expression : Stmt := top 50
abbrev s__law_body : Stmt := top 51
abbrev s__law_statement : Stmt := top 52
abbrev s__law_program : Stmt := top 53
abbrev s__law_bodies : Stmt := top 54
abbrev s__law_size : Stmt := top 55
abbrev s__law_fill : Stmt := top 56
abbrev s__law_table : Stmt := top 57
abbrev s__law_value : Stmt := top 58
abbrev s__law_with : Stmt := top 59
abbrev s__law_frame : Stmt := top 60
abbrev s__law_first : Stmt := top 61
abbrev s__law_after : Stmt := top 62
abbrev s__law_world : Stmt := top 63
abbrev s__law_is_at : Stmt := top 64
abbrev s__law_is_on_ring : Stmt := top 66
abbrev s_law : Stmt := top 67
def d_Rows___init__ : He.DefD := ⟨("Rows", some "__init__"), "__init__", "Rows.__init__", defArgs s_Rows___init__, defBody s_Rows___init__, defScope s_Rows___init__, [], []⟩
def d_Rows_missing : He.DefD := ⟨("Rows", some "missing"), "missing", "Rows.missing", defArgs s_Rows_missing, defBody s_Rows_missing, defScope s_Rows_missing, [], []⟩
def d_Rows_add : He.DefD := ⟨("Rows", some "add"), "add", "Rows.add", defArgs s_Rows_add, defBody s_Rows_add, defScope s_Rows_add, [], []⟩
def d_Step___init__ : He.DefD := ⟨("Step", some "__init__"), "__init__", "Step.__init__", defArgs s_Step___init__, defBody s_Step___init__, defScope s_Step___init__, [.adr (He.dflAt ("Step", some "__init__") 0), .int 1], []⟩
def d_fits : He.DefD := ⟨("fits", none), "fits", "fits", defArgs s_fits, defBody s_fits, defScope s_fits, [], []⟩
def d_Machine___init__ : He.DefD := ⟨("Machine", some "__init__"), "__init__", "Machine.__init__", defArgs s_Machine___init__, defBody s_Machine___init__, defScope s_Machine___init__, [], []⟩
def d_bodies : He.DefD := ⟨("bodies", none), "bodies", "bodies", defArgs s_bodies, defBody s_bodies, defScope s_bodies, [], []⟩
def d_Scope___init__ : He.DefD := ⟨("Scope", some "__init__"), "__init__", "Scope.__init__", defArgs s_Scope___init__, defBody s_Scope___init__, defScope s_Scope___init__, [], []⟩
def d_Scope_has_variable : He.DefD := ⟨("Scope", some "has_variable"), "has_variable", "Scope.has_variable", defArgs s_Scope_has_variable, defBody s_Scope_has_variable, defScope s_Scope_has_variable, [], []⟩
def d_Scope_has_variables : He.DefD := ⟨("Scope", some "has_variables"), "has_variables", "Scope.has_variables", defArgs s_Scope_has_variables, defBody s_Scope_has_variables, defScope s_Scope_has_variables, [], []⟩
def d_Scope_is_right : He.DefD := ⟨("Scope", some "is_right"), "is_right", "Scope.is_right", defArgs s_Scope_is_right, defBody s_Scope_is_right, defScope s_Scope_is_right, [], []⟩
def d_Scope_are_right : He.DefD := ⟨("Scope", some "are_right"), "are_right", "Scope.are_right", defArgs s_Scope_are_right, defBody s_Scope_are_right, defScope s_Scope_are_right, [], []⟩
def d_Program___init__ : He.DefD := ⟨("Program", some "__init__"), "__init__", "Program.__init__", defArgs s_Program___init__, defBody s_Program___init__, defScope s_Program___init__, [], []⟩
def d_Point___init__ : He.DefD := ⟨("Point", some "__init__"), "__init__", "Point.__init__", defArgs s_Point___init__, defBody s_Point___init__, defScope s_Point___init__, [], []⟩
def d_Points___init__ : He.DefD := ⟨("Points", some "__init__"), "__init__", "Points.__init__", defArgs s_Points___init__, defBody s_Points___init__, defScope s_Points___init__, [], []⟩
def d_Points_add_body : He.DefD := ⟨("Points", some "add_body"), "add_body", "Points.add_body", defArgs s_Points_add_body, defBody s_Points_add_body, defScope s_Points_add_body, [], []⟩
def d_Points_link : He.DefD := ⟨("Points", some "link"), "link", "Points.link", defArgs s_Points_link, defBody s_Points_link, defScope s_Points_link, [], []⟩
def d_value_of : He.DefD := ⟨("value_of", none), "value_of", "value_of", defArgs s_value_of, defBody s_value_of, defScope s_value_of, [], []⟩
def d_with_value : He.DefD := ⟨("with_value", none), "with_value", "with_value", defArgs s_with_value, defBody s_with_value, defScope s_with_value, [], []⟩
def d_no_values : He.DefD := ⟨("no_values", none), "no_values", "no_values", defArgs s_no_values, defBody s_no_values, defScope s_no_values, [], []⟩
def d_Walker___init__ : He.DefD := ⟨("Walker", some "__init__"), "__init__", "Walker.__init__", defArgs s_Walker___init__, defBody s_Walker___init__, defScope s_Walker___init__, [], []⟩
def d_Walker_entry_frame : He.DefD := ⟨("Walker", some "entry_frame"), "entry_frame", "Walker.entry_frame", defArgs s_Walker_entry_frame, defBody s_Walker_entry_frame, defScope s_Walker_entry_frame, [], []⟩
def d_Walker_goals : He.DefD := ⟨("Walker", some "goals"), "goals", "Walker.goals", defArgs s_Walker_goals, defBody s_Walker_goals, defScope s_Walker_goals, [], []⟩
def d_Walker_after : He.DefD := ⟨("Walker", some "after"), "after", "Walker.after", defArgs s_Walker_after, defBody s_Walker_after, defScope s_Walker_after, [], []⟩
def d_begin : He.DefD := ⟨("begin", none), "begin", "begin", defArgs s_begin, defBody s_begin, defScope s_begin, [], []⟩
def d_twos : He.DefD := ⟨("twos", none), "twos", "twos", defArgs s_twos, defBody s_twos, defScope s_twos, [], []⟩
def d_number_of : He.DefD := ⟨("number_of", none), "number_of", "number_of", defArgs s_number_of, defBody s_number_of, defScope s_number_of, [], []⟩
def d_values_of : He.DefD := ⟨("values_of", none), "values_of", "values_of", defArgs s_values_of, defBody s_values_of, defScope s_values_of, [], []⟩
def d_Coder___init__ : He.DefD := ⟨("Coder", some "__init__"), "__init__", "Coder.__init__", defArgs s_Coder___init__, defBody s_Coder___init__, defScope s_Coder___init__, [], []⟩
def d_Coder_letter : He.DefD := ⟨("Coder", some "letter"), "letter", "Coder.letter", defArgs s_Coder_letter, defBody s_Coder_letter, defScope s_Coder_letter, [], []⟩
def d_Coder_pile : He.DefD := ⟨("Coder", some "pile"), "pile", "Coder.pile", defArgs s_Coder_pile, defBody s_Coder_pile, defScope s_Coder_pile, [], []⟩
def d_Coder_steps : He.DefD := ⟨("Coder", some "steps"), "steps", "Coder.steps", defArgs s_Coder_steps, defBody s_Coder_steps, defScope s_Coder_steps, [], []⟩
def d_machine_of : He.DefD := ⟨("machine_of", none), "machine_of", "machine_of", defArgs s_machine_of, defBody s_machine_of, defScope s_machine_of, [], []⟩
def d_configuration_of : He.DefD := ⟨("configuration_of", none), "configuration_of", "configuration_of", defArgs s_configuration_of, defBody s_configuration_of, defScope s_configuration_of, [], []⟩
def d_Heads___init__ : He.DefD := ⟨("Heads", some "__init__"), "__init__", "Heads.__init__", defArgs s_Heads___init__, defBody s_Heads___init__, defScope s_Heads___init__, [], []⟩
def d_Heads_put : He.DefD := ⟨("Heads", some "put"), "put", "Heads.put", defArgs s_Heads_put, defBody s_Heads_put, defScope s_Heads_put, [], []⟩
def d_Heads_moves_from : He.DefD := ⟨("Heads", some "moves_from"), "moves_from", "Heads.moves_from", defArgs s_Heads_moves_from, defBody s_Heads_moves_from, defScope s_Heads_moves_from, [], []⟩
def d_Heads_reached : He.DefD := ⟨("Heads", some "reached"), "reached", "Heads.reached", defArgs s_Heads_reached, defBody s_Heads_reached, defScope s_Heads_reached, [], []⟩
def d_way_to : He.DefD := ⟨("way_to", none), "way_to", "way_to", defArgs s_way_to, defBody s_way_to, defScope s_way_to, [], []⟩
def d_TakeOff___init__ : He.DefD := ⟨("TakeOff", some "__init__"), "__init__", "TakeOff.__init__", defArgs s_TakeOff___init__, defBody s_TakeOff___init__, defScope s_TakeOff___init__, [], []⟩
def d_TakeOff_entries : He.DefD := ⟨("TakeOff", some "entries"), "entries", "TakeOff.entries", defArgs s_TakeOff_entries, defBody s_TakeOff_entries, defScope s_TakeOff_entries, [], []⟩
def d_TakeOff_use : He.DefD := ⟨("TakeOff", some "use"), "use", "TakeOff.use", defArgs s_TakeOff_use, defBody s_TakeOff_use, defScope s_TakeOff_use, [], []⟩
def d_descents : He.DefD := ⟨("descents", none), "descents", "descents", defArgs s_descents, defBody s_descents, defScope s_descents, [], []⟩
def d_ring_at : He.DefD := ⟨("ring_at", none), "ring_at", "ring_at", defArgs s_ring_at, defBody s_ring_at, defScope s_ring_at, [], []⟩
def d_told_ranks : He.DefD := ⟨("told_ranks", none), "told_ranks", "told_ranks", defArgs s_told_ranks, defBody s_told_ranks, defScope s_told_ranks, [], []⟩
def d_told_moves : He.DefD := ⟨("told_moves", none), "told_moves", "told_moves", defArgs s_told_moves, defBody s_told_moves, defScope s_told_moves, [], []⟩
def d_endless : He.DefD := ⟨("endless", none), "endless", "endless", defArgs s_endless, defBody s_endless, defScope s_endless, [], []⟩
def d_letters_at : He.DefD := ⟨("letters_at", none), "letters_at", "letters_at", defArgs s_letters_at, defBody s_letters_at, defScope s_letters_at, [], []⟩
def d_place_marks : He.DefD := ⟨("place_marks", none), "place_marks", "place_marks", defArgs s_place_marks, defBody s_place_marks, defScope s_place_marks, [], []⟩
def d_passes_ever : He.DefD := ⟨("passes_ever", none), "passes_ever", "passes_ever", defArgs s_passes_ever, defBody s_passes_ever, defScope s_passes_ever, [], []⟩
def d__law_numbers : He.DefD := ⟨("_law_numbers", none), "_law_numbers", "_law_numbers", defArgs s__law_numbers, defBody s__law_numbers, defScope s__law_numbers, [], []⟩
def d__law_pick : He.DefD := ⟨("_law_pick", none), "_law_pick", "_law_pick", defArgs s__law_pick, defBody s__law_pick, defScope s__law_pick, [], []⟩
def d__law_variable : He.DefD := ⟨("_law_variable", none), "_law_variable", "_law_variable", defArgs s__law_variable, defBody s__law_variable, defScope s__law_variable, [], []⟩
def d__law_expression : He.DefD := ⟨("_law_expression", none), "_law_expression", "_law_expression", defArgs s__law_expression, defBody s__law_expression, defScope s__law_expression, [], []⟩
def d__law_body : He.DefD := ⟨("_law_body", none), "_law_body", "_law_body", defArgs s__law_body, defBody s__law_body, defScope s__law_body, [], []⟩
def d__law_statement : He.DefD := ⟨("_law_statement", none), "_law_statement", "_law_statement", defArgs s__law_statement, defBody s__law_statement, defScope s__law_statement, [], []⟩
def d__law_program : He.DefD := ⟨("_law_program", none), "_law_program", "_law_program", defArgs s__law_program, defBody s__law_program, defScope s__law_program, [], []⟩
def d__law_bodies : He.DefD := ⟨("_law_bodies", none), "_law_bodies", "_law_bodies", defArgs s__law_bodies, defBody s__law_bodies, defScope s__law_bodies, [], []⟩
def d__law_size : He.DefD := ⟨("_law_size", none), "_law_size", "_law_size", defArgs s__law_size, defBody s__law_size, defScope s__law_size, [], []⟩
def d__law_fill : He.DefD := ⟨("_law_fill", none), "_law_fill", "_law_fill", defArgs s__law_fill, defBody s__law_fill, defScope s__law_fill, [], []⟩
def d__law_table : He.DefD := ⟨("_law_table", none), "_law_table", "_law_table", defArgs s__law_table, defBody s__law_table, defScope s__law_table, [], []⟩
def d__law_value : He.DefD := ⟨("_law_value", none), "_law_value", "_law_value", defArgs s__law_value, defBody s__law_value, defScope s__law_value, [], []⟩
def d__law_with : He.DefD := ⟨("_law_with", none), "_law_with", "_law_with", defArgs s__law_with, defBody s__law_with, defScope s__law_with, [], []⟩
def d__law_frame : He.DefD := ⟨("_law_frame", none), "_law_frame", "_law_frame", defArgs s__law_frame, defBody s__law_frame, defScope s__law_frame, [], []⟩
def d__law_first : He.DefD := ⟨("_law_first", none), "_law_first", "_law_first", defArgs s__law_first, defBody s__law_first, defScope s__law_first, [], []⟩
def d__law_after : He.DefD := ⟨("_law_after", none), "_law_after", "_law_after", defArgs s__law_after, defBody s__law_after, defScope s__law_after, [], []⟩
def d__law_world : He.DefD := ⟨("_law_world", none), "_law_world", "_law_world", defArgs s__law_world, defBody s__law_world, defScope s__law_world, [], []⟩
def d__law_is_at : He.DefD := ⟨("_law_is_at", none), "_law_is_at", "_law_is_at", defArgs s__law_is_at, defBody s__law_is_at, defScope s__law_is_at, [], []⟩
def d__law_is_on_ring : He.DefD := ⟨("_law_is_on_ring", none), "_law_is_on_ring", "_law_is_on_ring", defArgs s__law_is_on_ring, defBody s__law_is_on_ring, defScope s__law_is_on_ring, [], []⟩
def d_law : He.DefD := ⟨("law", none), "law", "law", defArgs s_law, defBody s_law, defScope s_law, [], []⟩
def fn0 : List He.DefD := [d_Rows___init__, d_Rows_missing, d_Rows_add, d_Step___init__, d_fits, d_Machine___init__, d_bodies, d_Scope___init__, d_Scope_has_variable, d_Scope_has_variables, d_Scope_is_right, d_Scope_are_right, d_Program___init__, d_Point___init__, d_Points___init__, d_Points_add_body, d_Points_link, d_value_of, d_with_value, d_no_values, d_Walker___init__, d_Walker_entry_frame, d_Walker_goals, d_Walker_after, d_begin, d_twos, d_number_of, d_values_of, d_Coder___init__, d_Coder_letter]
def fn1 : List He.DefD := [d_Coder_pile, d_Coder_steps, d_machine_of, d_configuration_of, d_Heads___init__, d_Heads_put, d_Heads_moves_from, d_Heads_reached, d_way_to, d_TakeOff___init__, d_TakeOff_entries, d_TakeOff_use, d_descents, d_ring_at, d_told_ranks, d_told_moves, d_endless, d_letters_at, d_place_marks, d_passes_ever, d__law_numbers, d__law_pick, d__law_variable, d__law_expression, d__law_body, d__law_statement, d__law_program, d__law_bodies, d__law_size, d__law_fill]
def fn2 : List He.DefD := [d__law_table, d__law_value, d__law_with, d__law_frame, d__law_first, d__law_after, d__law_world, d__law_is_at, d__law_is_on_ring, d_law]
def fn : List He.DefD := fn0 ++ (fn1 ++ (fn2))
def fa0 : List He.Fa := [.glo "fits", .glo "bodies", .glo "value_of", .glo "with_value", .glo "no_values", .glo "begin", .glo "twos", .glo "number_of", .glo "values_of", .glo "machine_of", .glo "configuration_of", .glo "way_to", .glo "descents", .glo "ring_at", .glo "told_ranks", .glo "told_moves", .glo "endless", .glo "letters_at", .glo "place_marks", .glo "passes_ever", .glo "_law_numbers", .glo "_law_pick", .glo "_law_variable", .glo "_law_expression", .glo "_law_body", .glo "_law_statement", .glo "_law_program", .glo "_law_bodies", .glo "_law_size", .glo "_law_fill"]
def fa1 : List He.Fa := [.glo "_law_table", .glo "_law_value", .glo "_law_with", .glo "_law_frame", .glo "_law_first", .glo "_law_after", .glo "_law_world", .glo "_law_is_at", .glo "_law_is_on_ring", .glo "law", .glo "Rows", .cls "Rows", .mkr "Rows", .noat "Rows" "found", .noat "Rows" "places", .noat "Rows" "rows", .meth "Rows" "missing", .meth "Rows" "add", .glo "Step", .cls "Step", .mkr "Step", .noat "Step" "state", .noat "Step" "letter", .noat "Step" "goal", .noat "Step" "laid", .noat "Step" "weight", .glo "Machine", .cls "Machine", .mkr "Machine", .noat "Machine" "states"]
def fa2 : List He.Fa := [.noat "Machine" "letters", .noat "Machine" "steps", .glo "Scope", .cls "Scope", .mkr "Scope", .noat "Scope" "counts", .noat "Scope" "procedure_count", .meth "Scope" "has_variable", .meth "Scope" "has_variables", .meth "Scope" "is_right", .meth "Scope" "are_right", .glo "Program", .cls "Program", .mkr "Program", .noat "Program" "global_count", .noat "Program" "procedures", .glo "Point", .cls "Point", .mkr "Point", .noat "Point" "procedure", .noat "Point" "statement", .noat "Point" "entries", .noat "Point" "follows", .glo "Points", .cls "Points", .mkr "Points", .noat "Points" "points", .noat "Points" "entries", .meth "Points" "add_body", .meth "Points" "link"]
def fa3 : List He.Fa := [.glo "Walker", .cls "Walker", .mkr "Walker", .noat "Walker" "program", .noat "Walker" "map", .meth "Walker" "entry_frame", .meth "Walker" "goals", .meth "Walker" "after", .glo "Coder", .cls "Coder", .mkr "Coder", .noat "Coder" "program", .noat "Coder" "walker", .noat "Coder" "firsts", .noat "Coder" "frames", .meth "Coder" "letter", .meth "Coder" "pile", .meth "Coder" "steps", .glo "Heads", .cls "Heads", .mkr "Heads", .noat "Heads" "moves", .meth "Heads" "put", .meth "Heads" "moves_from", .meth "Heads" "reached", .glo "TakeOff", .cls "TakeOff", .mkr "TakeOff", .noat "TakeOff" "machine", .noat "TakeOff" "marked"]
def fa4 : List He.Fa := [.noat "TakeOff" "found", .noat "TakeOff" "leaving", .meth "TakeOff" "entries", .meth "TakeOff" "use", .free "len", .free "range", .free "tuple", .free "list", .free "dict", .free "all", .free "sum", .free "isinstance", .free "int", .free "bool", .free "enumerate", .free "reversed", .free "sorted", .int "MOST_PLACE" 999]
def fa : List He.Fa := fa0 ++ (fa1 ++ (fa2 ++ (fa3 ++ (fa4))))
structure Env (K : PySem.W.Frag) (mg : Str → Option Value) : Prop where
  says : He.SaysD fa fn K
  glo : ∀ {x : Str}, (He.Fa.glo x).ok K = true → mg x = some (.ref (He.ga K x))
  free : ∀ {x : Str}, (He.Fa.free x).ok K = true → mg x = none
  int : ∀ {x : Str} {i : Int}, (He.Fa.int x i).ok K = true → ∃ t, mg x = some (.int i t)
theorem Env.mk' {K : PySem.W.Frag} {h : Heap} {mg : Str → Option Value} (X : K.In h) (G : h.Ns mainGlobals mg) (c : He.SaysD fa fn K) : Env K mg :=
  ⟨c, fun z => He.glo_ok X G z, fun z => He.free_ok X G z, fun z => He.int_ok X G z⟩
section
variable {K : PySem.W.Frag} {mg : Str → Option Value}
theorem Env.g_fits (T : Env K mg) : mg "fits" = some (.ref (He.ga K "fits")) := T.glo (T.says.fact 0 rfl)
theorem Env.g_bodies (T : Env K mg) : mg "bodies" = some (.ref (He.ga K "bodies")) := T.glo (T.says.fact 1 rfl)
theorem Env.g_value_of (T : Env K mg) : mg "value_of" = some (.ref (He.ga K "value_of")) := T.glo (T.says.fact 2 rfl)
theorem Env.g_with_value (T : Env K mg) : mg "with_value" = some (.ref (He.ga K "with_value")) := T.glo (T.says.fact 3 rfl)
theorem Env.g_no_values (T : Env K mg) : mg "no_values" = some (.ref (He.ga K "no_values")) := T.glo (T.says.fact 4 rfl)
theorem Env.g_begin (T : Env K mg) : mg "begin" = some (.ref (He.ga K "begin")) := T.glo (T.says.fact 5 rfl)
theorem Env.g_twos (T : Env K mg) : mg "twos" = some (.ref (He.ga K "twos")) := T.glo (T.says.fact 6 rfl)
theorem Env.g_number_of (T : Env K mg) : mg "number_of" = some (.ref (He.ga K "number_of")) := T.glo (T.says.fact 7 rfl)
theorem Env.g_values_of (T : Env K mg) : mg "values_of" = some (.ref (He.ga K "values_of")) := T.glo (T.says.fact 8 rfl)
theorem Env.g_machine_of (T : Env K mg) : mg "machine_of" = some (.ref (He.ga K "machine_of")) := T.glo (T.says.fact 9 rfl)
theorem Env.g_configuration_of (T : Env K mg) : mg "configuration_of" = some (.ref (He.ga K "configuration_of")) := T.glo (T.says.fact 10 rfl)
theorem Env.g_way_to (T : Env K mg) : mg "way_to" = some (.ref (He.ga K "way_to")) := T.glo (T.says.fact 11 rfl)
theorem Env.g_descents (T : Env K mg) : mg "descents" = some (.ref (He.ga K "descents")) := T.glo (T.says.fact 12 rfl)
theorem Env.g_ring_at (T : Env K mg) : mg "ring_at" = some (.ref (He.ga K "ring_at")) := T.glo (T.says.fact 13 rfl)
theorem Env.g_told_ranks (T : Env K mg) : mg "told_ranks" = some (.ref (He.ga K "told_ranks")) := T.glo (T.says.fact 14 rfl)
theorem Env.g_told_moves (T : Env K mg) : mg "told_moves" = some (.ref (He.ga K "told_moves")) := T.glo (T.says.fact 15 rfl)
theorem Env.g_endless (T : Env K mg) : mg "endless" = some (.ref (He.ga K "endless")) := T.glo (T.says.fact 16 rfl)
theorem Env.g_letters_at (T : Env K mg) : mg "letters_at" = some (.ref (He.ga K "letters_at")) := T.glo (T.says.fact 17 rfl)
theorem Env.g_place_marks (T : Env K mg) : mg "place_marks" = some (.ref (He.ga K "place_marks")) := T.glo (T.says.fact 18 rfl)
theorem Env.g_passes_ever (T : Env K mg) : mg "passes_ever" = some (.ref (He.ga K "passes_ever")) := T.glo (T.says.fact 19 rfl)
theorem Env.g__law_numbers (T : Env K mg) : mg "_law_numbers" = some (.ref (He.ga K "_law_numbers")) := T.glo (T.says.fact 20 rfl)
theorem Env.g__law_pick (T : Env K mg) : mg "_law_pick" = some (.ref (He.ga K "_law_pick")) := T.glo (T.says.fact 21 rfl)
theorem Env.g__law_variable (T : Env K mg) : mg "_law_variable" = some (.ref (He.ga K "_law_variable")) := T.glo (T.says.fact 22 rfl)
theorem Env.g__law_expression (T : Env K mg) : mg "_law_expression" = some (.ref (He.ga K "_law_expression")) := T.glo (T.says.fact 23 rfl)
theorem Env.g__law_body (T : Env K mg) : mg "_law_body" = some (.ref (He.ga K "_law_body")) := T.glo (T.says.fact 24 rfl)
theorem Env.g__law_statement (T : Env K mg) : mg "_law_statement" = some (.ref (He.ga K "_law_statement")) := T.glo (T.says.fact 25 rfl)
theorem Env.g__law_program (T : Env K mg) : mg "_law_program" = some (.ref (He.ga K "_law_program")) := T.glo (T.says.fact 26 rfl)
theorem Env.g__law_bodies (T : Env K mg) : mg "_law_bodies" = some (.ref (He.ga K "_law_bodies")) := T.glo (T.says.fact 27 rfl)
theorem Env.g__law_size (T : Env K mg) : mg "_law_size" = some (.ref (He.ga K "_law_size")) := T.glo (T.says.fact 28 rfl)
theorem Env.g__law_fill (T : Env K mg) : mg "_law_fill" = some (.ref (He.ga K "_law_fill")) := T.glo (T.says.fact 29 rfl)
theorem Env.g__law_table (T : Env K mg) : mg "_law_table" = some (.ref (He.ga K "_law_table")) := T.glo (T.says.fact 30 rfl)
theorem Env.g__law_value (T : Env K mg) : mg "_law_value" = some (.ref (He.ga K "_law_value")) := T.glo (T.says.fact 31 rfl)
theorem Env.g__law_with (T : Env K mg) : mg "_law_with" = some (.ref (He.ga K "_law_with")) := T.glo (T.says.fact 32 rfl)
theorem Env.g__law_frame (T : Env K mg) : mg "_law_frame" = some (.ref (He.ga K "_law_frame")) := T.glo (T.says.fact 33 rfl)
theorem Env.g__law_first (T : Env K mg) : mg "_law_first" = some (.ref (He.ga K "_law_first")) := T.glo (T.says.fact 34 rfl)
theorem Env.g__law_after (T : Env K mg) : mg "_law_after" = some (.ref (He.ga K "_law_after")) := T.glo (T.says.fact 35 rfl)
theorem Env.g__law_world (T : Env K mg) : mg "_law_world" = some (.ref (He.ga K "_law_world")) := T.glo (T.says.fact 36 rfl)
theorem Env.g__law_is_at (T : Env K mg) : mg "_law_is_at" = some (.ref (He.ga K "_law_is_at")) := T.glo (T.says.fact 37 rfl)
theorem Env.g__law_is_on_ring (T : Env K mg) : mg "_law_is_on_ring" = some (.ref (He.ga K "_law_is_on_ring")) := T.glo (T.says.fact 38 rfl)
theorem Env.g_law (T : Env K mg) : mg "law" = some (.ref (He.ga K "law")) := T.glo (T.says.fact 39 rfl)
theorem Env.g_Rows (T : Env K mg) : mg "Rows" = some (.ref (He.ga K "Rows")) := T.glo (T.says.fact 40 rfl)
theorem Env.c_Rows (T : Env K mg) : Cls K (He.ga K "Rows") := He.cls_ok (T.says.fact 41 rfl)
theorem Env.k_Rows (T : Env K mg) : Mk K (He.ga K "Rows") (He.ma K (He.ga K "Rows") "__init__") := He.mkr_ok (T.says.fact 42 rfl)
theorem Env.n_Rows_found (T : Env K mg) : NoAttr K (He.ga K "Rows") "found" := He.noat_ok (T.says.fact 43 rfl)
theorem Env.n_Rows_places (T : Env K mg) : NoAttr K (He.ga K "Rows") "places" := He.noat_ok (T.says.fact 44 rfl)
theorem Env.n_Rows_rows (T : Env K mg) : NoAttr K (He.ga K "Rows") "rows" := He.noat_ok (T.says.fact 45 rfl)
theorem Env.m_Rows_missing (T : Env K mg) : Meth K (He.ga K "Rows") "missing" (He.ma K (He.ga K "Rows") "missing") := He.meth_ok (T.says.fact 46 rfl)
theorem Env.m_Rows_add (T : Env K mg) : Meth K (He.ga K "Rows") "add" (He.ma K (He.ga K "Rows") "add") := He.meth_ok (T.says.fact 47 rfl)
theorem Env.g_Step (T : Env K mg) : mg "Step" = some (.ref (He.ga K "Step")) := T.glo (T.says.fact 48 rfl)
theorem Env.c_Step (T : Env K mg) : Cls K (He.ga K "Step") := He.cls_ok (T.says.fact 49 rfl)
theorem Env.k_Step (T : Env K mg) : Mk K (He.ga K "Step") (He.ma K (He.ga K "Step") "__init__") := He.mkr_ok (T.says.fact 50 rfl)
theorem Env.n_Step_state (T : Env K mg) : NoAttr K (He.ga K "Step") "state" := He.noat_ok (T.says.fact 51 rfl)
theorem Env.n_Step_letter (T : Env K mg) : NoAttr K (He.ga K "Step") "letter" := He.noat_ok (T.says.fact 52 rfl)
theorem Env.n_Step_goal (T : Env K mg) : NoAttr K (He.ga K "Step") "goal" := He.noat_ok (T.says.fact 53 rfl)
theorem Env.n_Step_laid (T : Env K mg) : NoAttr K (He.ga K "Step") "laid" := He.noat_ok (T.says.fact 54 rfl)
theorem Env.n_Step_weight (T : Env K mg) : NoAttr K (He.ga K "Step") "weight" := He.noat_ok (T.says.fact 55 rfl)
theorem Env.g_Machine (T : Env K mg) : mg "Machine" = some (.ref (He.ga K "Machine")) := T.glo (T.says.fact 56 rfl)
theorem Env.c_Machine (T : Env K mg) : Cls K (He.ga K "Machine") := He.cls_ok (T.says.fact 57 rfl)
theorem Env.k_Machine (T : Env K mg) : Mk K (He.ga K "Machine") (He.ma K (He.ga K "Machine") "__init__") := He.mkr_ok (T.says.fact 58 rfl)
theorem Env.n_Machine_states (T : Env K mg) : NoAttr K (He.ga K "Machine") "states" := He.noat_ok (T.says.fact 59 rfl)
theorem Env.n_Machine_letters (T : Env K mg) : NoAttr K (He.ga K "Machine") "letters" := He.noat_ok (T.says.fact 60 rfl)
theorem Env.n_Machine_steps (T : Env K mg) : NoAttr K (He.ga K "Machine") "steps" := He.noat_ok (T.says.fact 61 rfl)
theorem Env.g_Scope (T : Env K mg) : mg "Scope" = some (.ref (He.ga K "Scope")) := T.glo (T.says.fact 62 rfl)
theorem Env.c_Scope (T : Env K mg) : Cls K (He.ga K "Scope") := He.cls_ok (T.says.fact 63 rfl)
theorem Env.k_Scope (T : Env K mg) : Mk K (He.ga K "Scope") (He.ma K (He.ga K "Scope") "__init__") := He.mkr_ok (T.says.fact 64 rfl)
theorem Env.n_Scope_counts (T : Env K mg) : NoAttr K (He.ga K "Scope") "counts" := He.noat_ok (T.says.fact 65 rfl)
theorem Env.n_Scope_procedure_count (T : Env K mg) : NoAttr K (He.ga K "Scope") "procedure_count" := He.noat_ok (T.says.fact 66 rfl)
theorem Env.m_Scope_has_variable (T : Env K mg) : Meth K (He.ga K "Scope") "has_variable" (He.ma K (He.ga K "Scope") "has_variable") := He.meth_ok (T.says.fact 67 rfl)
theorem Env.m_Scope_has_variables (T : Env K mg) : Meth K (He.ga K "Scope") "has_variables" (He.ma K (He.ga K "Scope") "has_variables") := He.meth_ok (T.says.fact 68 rfl)
theorem Env.m_Scope_is_right (T : Env K mg) : Meth K (He.ga K "Scope") "is_right" (He.ma K (He.ga K "Scope") "is_right") := He.meth_ok (T.says.fact 69 rfl)
theorem Env.m_Scope_are_right (T : Env K mg) : Meth K (He.ga K "Scope") "are_right" (He.ma K (He.ga K "Scope") "are_right") := He.meth_ok (T.says.fact 70 rfl)
theorem Env.g_Program (T : Env K mg) : mg "Program" = some (.ref (He.ga K "Program")) := T.glo (T.says.fact 71 rfl)
theorem Env.c_Program (T : Env K mg) : Cls K (He.ga K "Program") := He.cls_ok (T.says.fact 72 rfl)
theorem Env.k_Program (T : Env K mg) : Mk K (He.ga K "Program") (He.ma K (He.ga K "Program") "__init__") := He.mkr_ok (T.says.fact 73 rfl)
theorem Env.n_Program_global_count (T : Env K mg) : NoAttr K (He.ga K "Program") "global_count" := He.noat_ok (T.says.fact 74 rfl)
theorem Env.n_Program_procedures (T : Env K mg) : NoAttr K (He.ga K "Program") "procedures" := He.noat_ok (T.says.fact 75 rfl)
theorem Env.g_Point (T : Env K mg) : mg "Point" = some (.ref (He.ga K "Point")) := T.glo (T.says.fact 76 rfl)
theorem Env.c_Point (T : Env K mg) : Cls K (He.ga K "Point") := He.cls_ok (T.says.fact 77 rfl)
theorem Env.k_Point (T : Env K mg) : Mk K (He.ga K "Point") (He.ma K (He.ga K "Point") "__init__") := He.mkr_ok (T.says.fact 78 rfl)
theorem Env.n_Point_procedure (T : Env K mg) : NoAttr K (He.ga K "Point") "procedure" := He.noat_ok (T.says.fact 79 rfl)
theorem Env.n_Point_statement (T : Env K mg) : NoAttr K (He.ga K "Point") "statement" := He.noat_ok (T.says.fact 80 rfl)
theorem Env.n_Point_entries (T : Env K mg) : NoAttr K (He.ga K "Point") "entries" := He.noat_ok (T.says.fact 81 rfl)
theorem Env.n_Point_follows (T : Env K mg) : NoAttr K (He.ga K "Point") "follows" := He.noat_ok (T.says.fact 82 rfl)
theorem Env.g_Points (T : Env K mg) : mg "Points" = some (.ref (He.ga K "Points")) := T.glo (T.says.fact 83 rfl)
theorem Env.c_Points (T : Env K mg) : Cls K (He.ga K "Points") := He.cls_ok (T.says.fact 84 rfl)
theorem Env.k_Points (T : Env K mg) : Mk K (He.ga K "Points") (He.ma K (He.ga K "Points") "__init__") := He.mkr_ok (T.says.fact 85 rfl)
theorem Env.n_Points_points (T : Env K mg) : NoAttr K (He.ga K "Points") "points" := He.noat_ok (T.says.fact 86 rfl)
theorem Env.n_Points_entries (T : Env K mg) : NoAttr K (He.ga K "Points") "entries" := He.noat_ok (T.says.fact 87 rfl)
theorem Env.m_Points_add_body (T : Env K mg) : Meth K (He.ga K "Points") "add_body" (He.ma K (He.ga K "Points") "add_body") := He.meth_ok (T.says.fact 88 rfl)
theorem Env.m_Points_link (T : Env K mg) : Meth K (He.ga K "Points") "link" (He.ma K (He.ga K "Points") "link") := He.meth_ok (T.says.fact 89 rfl)
theorem Env.g_Walker (T : Env K mg) : mg "Walker" = some (.ref (He.ga K "Walker")) := T.glo (T.says.fact 90 rfl)
theorem Env.c_Walker (T : Env K mg) : Cls K (He.ga K "Walker") := He.cls_ok (T.says.fact 91 rfl)
theorem Env.k_Walker (T : Env K mg) : Mk K (He.ga K "Walker") (He.ma K (He.ga K "Walker") "__init__") := He.mkr_ok (T.says.fact 92 rfl)
theorem Env.n_Walker_program (T : Env K mg) : NoAttr K (He.ga K "Walker") "program" := He.noat_ok (T.says.fact 93 rfl)
theorem Env.n_Walker_map (T : Env K mg) : NoAttr K (He.ga K "Walker") "map" := He.noat_ok (T.says.fact 94 rfl)
theorem Env.m_Walker_entry_frame (T : Env K mg) : Meth K (He.ga K "Walker") "entry_frame" (He.ma K (He.ga K "Walker") "entry_frame") := He.meth_ok (T.says.fact 95 rfl)
theorem Env.m_Walker_goals (T : Env K mg) : Meth K (He.ga K "Walker") "goals" (He.ma K (He.ga K "Walker") "goals") := He.meth_ok (T.says.fact 96 rfl)
theorem Env.m_Walker_after (T : Env K mg) : Meth K (He.ga K "Walker") "after" (He.ma K (He.ga K "Walker") "after") := He.meth_ok (T.says.fact 97 rfl)
theorem Env.g_Coder (T : Env K mg) : mg "Coder" = some (.ref (He.ga K "Coder")) := T.glo (T.says.fact 98 rfl)
theorem Env.c_Coder (T : Env K mg) : Cls K (He.ga K "Coder") := He.cls_ok (T.says.fact 99 rfl)
theorem Env.k_Coder (T : Env K mg) : Mk K (He.ga K "Coder") (He.ma K (He.ga K "Coder") "__init__") := He.mkr_ok (T.says.fact 100 rfl)
theorem Env.n_Coder_program (T : Env K mg) : NoAttr K (He.ga K "Coder") "program" := He.noat_ok (T.says.fact 101 rfl)
theorem Env.n_Coder_walker (T : Env K mg) : NoAttr K (He.ga K "Coder") "walker" := He.noat_ok (T.says.fact 102 rfl)
theorem Env.n_Coder_firsts (T : Env K mg) : NoAttr K (He.ga K "Coder") "firsts" := He.noat_ok (T.says.fact 103 rfl)
theorem Env.n_Coder_frames (T : Env K mg) : NoAttr K (He.ga K "Coder") "frames" := He.noat_ok (T.says.fact 104 rfl)
theorem Env.m_Coder_letter (T : Env K mg) : Meth K (He.ga K "Coder") "letter" (He.ma K (He.ga K "Coder") "letter") := He.meth_ok (T.says.fact 105 rfl)
theorem Env.m_Coder_pile (T : Env K mg) : Meth K (He.ga K "Coder") "pile" (He.ma K (He.ga K "Coder") "pile") := He.meth_ok (T.says.fact 106 rfl)
theorem Env.m_Coder_steps (T : Env K mg) : Meth K (He.ga K "Coder") "steps" (He.ma K (He.ga K "Coder") "steps") := He.meth_ok (T.says.fact 107 rfl)
theorem Env.g_Heads (T : Env K mg) : mg "Heads" = some (.ref (He.ga K "Heads")) := T.glo (T.says.fact 108 rfl)
theorem Env.c_Heads (T : Env K mg) : Cls K (He.ga K "Heads") := He.cls_ok (T.says.fact 109 rfl)
theorem Env.k_Heads (T : Env K mg) : Mk K (He.ga K "Heads") (He.ma K (He.ga K "Heads") "__init__") := He.mkr_ok (T.says.fact 110 rfl)
theorem Env.n_Heads_moves (T : Env K mg) : NoAttr K (He.ga K "Heads") "moves" := He.noat_ok (T.says.fact 111 rfl)
theorem Env.m_Heads_put (T : Env K mg) : Meth K (He.ga K "Heads") "put" (He.ma K (He.ga K "Heads") "put") := He.meth_ok (T.says.fact 112 rfl)
theorem Env.m_Heads_moves_from (T : Env K mg) : Meth K (He.ga K "Heads") "moves_from" (He.ma K (He.ga K "Heads") "moves_from") := He.meth_ok (T.says.fact 113 rfl)
theorem Env.m_Heads_reached (T : Env K mg) : Meth K (He.ga K "Heads") "reached" (He.ma K (He.ga K "Heads") "reached") := He.meth_ok (T.says.fact 114 rfl)
theorem Env.g_TakeOff (T : Env K mg) : mg "TakeOff" = some (.ref (He.ga K "TakeOff")) := T.glo (T.says.fact 115 rfl)
theorem Env.c_TakeOff (T : Env K mg) : Cls K (He.ga K "TakeOff") := He.cls_ok (T.says.fact 116 rfl)
theorem Env.k_TakeOff (T : Env K mg) : Mk K (He.ga K "TakeOff") (He.ma K (He.ga K "TakeOff") "__init__") := He.mkr_ok (T.says.fact 117 rfl)
theorem Env.n_TakeOff_machine (T : Env K mg) : NoAttr K (He.ga K "TakeOff") "machine" := He.noat_ok (T.says.fact 118 rfl)
theorem Env.n_TakeOff_marked (T : Env K mg) : NoAttr K (He.ga K "TakeOff") "marked" := He.noat_ok (T.says.fact 119 rfl)
theorem Env.n_TakeOff_found (T : Env K mg) : NoAttr K (He.ga K "TakeOff") "found" := He.noat_ok (T.says.fact 120 rfl)
theorem Env.n_TakeOff_leaving (T : Env K mg) : NoAttr K (He.ga K "TakeOff") "leaving" := He.noat_ok (T.says.fact 121 rfl)
theorem Env.m_TakeOff_entries (T : Env K mg) : Meth K (He.ga K "TakeOff") "entries" (He.ma K (He.ga K "TakeOff") "entries") := He.meth_ok (T.says.fact 122 rfl)
theorem Env.m_TakeOff_use (T : Env K mg) : Meth K (He.ga K "TakeOff") "use" (He.ma K (He.ga K "TakeOff") "use") := He.meth_ok (T.says.fact 123 rfl)
theorem Env.f_len (T : Env K mg) : mg "len" = none := T.free (T.says.fact 124 rfl)
theorem Env.f_range (T : Env K mg) : mg "range" = none := T.free (T.says.fact 125 rfl)
theorem Env.f_tuple (T : Env K mg) : mg "tuple" = none := T.free (T.says.fact 126 rfl)
theorem Env.f_list (T : Env K mg) : mg "list" = none := T.free (T.says.fact 127 rfl)
theorem Env.f_dict (T : Env K mg) : mg "dict" = none := T.free (T.says.fact 128 rfl)
theorem Env.f_all (T : Env K mg) : mg "all" = none := T.free (T.says.fact 129 rfl)
theorem Env.f_sum (T : Env K mg) : mg "sum" = none := T.free (T.says.fact 130 rfl)
theorem Env.f_isinstance (T : Env K mg) : mg "isinstance" = none := T.free (T.says.fact 131 rfl)
theorem Env.f_int (T : Env K mg) : mg "int" = none := T.free (T.says.fact 132 rfl)
theorem Env.f_bool (T : Env K mg) : mg "bool" = none := T.free (T.says.fact 133 rfl)
theorem Env.f_enumerate (T : Env K mg) : mg "enumerate" = none := T.free (T.says.fact 134 rfl)
theorem Env.f_reversed (T : Env K mg) : mg "reversed" = none := T.free (T.says.fact 135 rfl)
theorem Env.f_sorted (T : Env K mg) : mg "sorted" = none := T.free (T.says.fact 136 rfl)
theorem Env.i_MOST_PLACE (T : Env K mg) : ∃ t, mg "MOST_PLACE" = some (.int 999 t) := T.int (T.says.fact 137 rfl)
theorem Env.F_Rows___init__ (T : Env K mg) : ∃ fd, FunD K "__init__" "Rows.__init__" (defArgs s_Rows___init__) (defBody s_Rows___init__) (defScope s_Rows___init__) [] [] (He.ma K (He.ga K "Rows") "__init__") fd := T.says.def_ 0 (d := d_Rows___init__) rfl
theorem Env.F_Rows_missing (T : Env K mg) : ∃ fd, FunD K "missing" "Rows.missing" (defArgs s_Rows_missing) (defBody s_Rows_missing) (defScope s_Rows_missing) [] [] (He.ma K (He.ga K "Rows") "missing") fd := T.says.def_ 1 (d := d_Rows_missing) rfl
theorem Env.F_Rows_add (T : Env K mg) : ∃ fd, FunD K "add" "Rows.add" (defArgs s_Rows_add) (defBody s_Rows_add) (defScope s_Rows_add) [] [] (He.ma K (He.ga K "Rows") "add") fd := T.says.def_ 2 (d := d_Rows_add) rfl
theorem Env.F_Step___init__ (T : Env K mg) : ∃ fd, FunD K "__init__" "Step.__init__" (defArgs s_Step___init__) (defBody s_Step___init__) (defScope s_Step___init__) [.ref (He.dflAt ("Step", some "__init__") 0 K), .int 1] [] (He.ma K (He.ga K "Step") "__init__") fd := T.says.def_ 3 (d := d_Step___init__) rfl
theorem Env.F_fits (T : Env K mg) : ∃ fd, FunD K "fits" "fits" (defArgs s_fits) (defBody s_fits) (defScope s_fits) [] [] (He.ga K "fits") fd := T.says.def_ 4 (d := d_fits) rfl
theorem Env.F_Machine___init__ (T : Env K mg) : ∃ fd, FunD K "__init__" "Machine.__init__" (defArgs s_Machine___init__) (defBody s_Machine___init__) (defScope s_Machine___init__) [] [] (He.ma K (He.ga K "Machine") "__init__") fd := T.says.def_ 5 (d := d_Machine___init__) rfl
theorem Env.F_bodies (T : Env K mg) : ∃ fd, FunD K "bodies" "bodies" (defArgs s_bodies) (defBody s_bodies) (defScope s_bodies) [] [] (He.ga K "bodies") fd := T.says.def_ 6 (d := d_bodies) rfl
theorem Env.F_Scope___init__ (T : Env K mg) : ∃ fd, FunD K "__init__" "Scope.__init__" (defArgs s_Scope___init__) (defBody s_Scope___init__) (defScope s_Scope___init__) [] [] (He.ma K (He.ga K "Scope") "__init__") fd := T.says.def_ 7 (d := d_Scope___init__) rfl
theorem Env.F_Scope_has_variable (T : Env K mg) : ∃ fd, FunD K "has_variable" "Scope.has_variable" (defArgs s_Scope_has_variable) (defBody s_Scope_has_variable) (defScope s_Scope_has_variable) [] [] (He.ma K (He.ga K "Scope") "has_variable") fd := T.says.def_ 8 (d := d_Scope_has_variable) rfl
theorem Env.F_Scope_has_variables (T : Env K mg) : ∃ fd, FunD K "has_variables" "Scope.has_variables" (defArgs s_Scope_has_variables) (defBody s_Scope_has_variables) (defScope s_Scope_has_variables) [] [] (He.ma K (He.ga K "Scope") "has_variables") fd := T.says.def_ 9 (d := d_Scope_has_variables) rfl
theorem Env.F_Scope_is_right (T : Env K mg) : ∃ fd, FunD K "is_right" "Scope.is_right" (defArgs s_Scope_is_right) (defBody s_Scope_is_right) (defScope s_Scope_is_right) [] [] (He.ma K (He.ga K "Scope") "is_right") fd := T.says.def_ 10 (d := d_Scope_is_right) rfl
theorem Env.F_Scope_are_right (T : Env K mg) : ∃ fd, FunD K "are_right" "Scope.are_right" (defArgs s_Scope_are_right) (defBody s_Scope_are_right) (defScope s_Scope_are_right) [] [] (He.ma K (He.ga K "Scope") "are_right") fd := T.says.def_ 11 (d := d_Scope_are_right) rfl
theorem Env.F_Program___init__ (T : Env K mg) : ∃ fd, FunD K "__init__" "Program.__init__" (defArgs s_Program___init__) (defBody s_Program___init__) (defScope s_Program___init__) [] [] (He.ma K (He.ga K "Program") "__init__") fd := T.says.def_ 12 (d := d_Program___init__) rfl
theorem Env.F_Point___init__ (T : Env K mg) : ∃ fd, FunD K "__init__" "Point.__init__" (defArgs s_Point___init__) (defBody s_Point___init__) (defScope s_Point___init__) [] [] (He.ma K (He.ga K "Point") "__init__") fd := T.says.def_ 13 (d := d_Point___init__) rfl
theorem Env.F_Points___init__ (T : Env K mg) : ∃ fd, FunD K "__init__" "Points.__init__" (defArgs s_Points___init__) (defBody s_Points___init__) (defScope s_Points___init__) [] [] (He.ma K (He.ga K "Points") "__init__") fd := T.says.def_ 14 (d := d_Points___init__) rfl
theorem Env.F_Points_add_body (T : Env K mg) : ∃ fd, FunD K "add_body" "Points.add_body" (defArgs s_Points_add_body) (defBody s_Points_add_body) (defScope s_Points_add_body) [] [] (He.ma K (He.ga K "Points") "add_body") fd := T.says.def_ 15 (d := d_Points_add_body) rfl
theorem Env.F_Points_link (T : Env K mg) : ∃ fd, FunD K "link" "Points.link" (defArgs s_Points_link) (defBody s_Points_link) (defScope s_Points_link) [] [] (He.ma K (He.ga K "Points") "link") fd := T.says.def_ 16 (d := d_Points_link) rfl
theorem Env.F_value_of (T : Env K mg) : ∃ fd, FunD K "value_of" "value_of" (defArgs s_value_of) (defBody s_value_of) (defScope s_value_of) [] [] (He.ga K "value_of") fd := T.says.def_ 17 (d := d_value_of) rfl
theorem Env.F_with_value (T : Env K mg) : ∃ fd, FunD K "with_value" "with_value" (defArgs s_with_value) (defBody s_with_value) (defScope s_with_value) [] [] (He.ga K "with_value") fd := T.says.def_ 18 (d := d_with_value) rfl
theorem Env.F_no_values (T : Env K mg) : ∃ fd, FunD K "no_values" "no_values" (defArgs s_no_values) (defBody s_no_values) (defScope s_no_values) [] [] (He.ga K "no_values") fd := T.says.def_ 19 (d := d_no_values) rfl
theorem Env.F_Walker___init__ (T : Env K mg) : ∃ fd, FunD K "__init__" "Walker.__init__" (defArgs s_Walker___init__) (defBody s_Walker___init__) (defScope s_Walker___init__) [] [] (He.ma K (He.ga K "Walker") "__init__") fd := T.says.def_ 20 (d := d_Walker___init__) rfl
theorem Env.F_Walker_entry_frame (T : Env K mg) : ∃ fd, FunD K "entry_frame" "Walker.entry_frame" (defArgs s_Walker_entry_frame) (defBody s_Walker_entry_frame) (defScope s_Walker_entry_frame) [] [] (He.ma K (He.ga K "Walker") "entry_frame") fd := T.says.def_ 21 (d := d_Walker_entry_frame) rfl
theorem Env.F_Walker_goals (T : Env K mg) : ∃ fd, FunD K "goals" "Walker.goals" (defArgs s_Walker_goals) (defBody s_Walker_goals) (defScope s_Walker_goals) [] [] (He.ma K (He.ga K "Walker") "goals") fd := T.says.def_ 22 (d := d_Walker_goals) rfl
theorem Env.F_Walker_after (T : Env K mg) : ∃ fd, FunD K "after" "Walker.after" (defArgs s_Walker_after) (defBody s_Walker_after) (defScope s_Walker_after) [] [] (He.ma K (He.ga K "Walker") "after") fd := T.says.def_ 23 (d := d_Walker_after) rfl
theorem Env.F_begin (T : Env K mg) : ∃ fd, FunD K "begin" "begin" (defArgs s_begin) (defBody s_begin) (defScope s_begin) [] [] (He.ga K "begin") fd := T.says.def_ 24 (d := d_begin) rfl
theorem Env.F_twos (T : Env K mg) : ∃ fd, FunD K "twos" "twos" (defArgs s_twos) (defBody s_twos) (defScope s_twos) [] [] (He.ga K "twos") fd := T.says.def_ 25 (d := d_twos) rfl
theorem Env.F_number_of (T : Env K mg) : ∃ fd, FunD K "number_of" "number_of" (defArgs s_number_of) (defBody s_number_of) (defScope s_number_of) [] [] (He.ga K "number_of") fd := T.says.def_ 26 (d := d_number_of) rfl
theorem Env.F_values_of (T : Env K mg) : ∃ fd, FunD K "values_of" "values_of" (defArgs s_values_of) (defBody s_values_of) (defScope s_values_of) [] [] (He.ga K "values_of") fd := T.says.def_ 27 (d := d_values_of) rfl
theorem Env.F_Coder___init__ (T : Env K mg) : ∃ fd, FunD K "__init__" "Coder.__init__" (defArgs s_Coder___init__) (defBody s_Coder___init__) (defScope s_Coder___init__) [] [] (He.ma K (He.ga K "Coder") "__init__") fd := T.says.def_ 28 (d := d_Coder___init__) rfl
theorem Env.F_Coder_letter (T : Env K mg) : ∃ fd, FunD K "letter" "Coder.letter" (defArgs s_Coder_letter) (defBody s_Coder_letter) (defScope s_Coder_letter) [] [] (He.ma K (He.ga K "Coder") "letter") fd := T.says.def_ 29 (d := d_Coder_letter) rfl
theorem Env.F_Coder_pile (T : Env K mg) : ∃ fd, FunD K "pile" "Coder.pile" (defArgs s_Coder_pile) (defBody s_Coder_pile) (defScope s_Coder_pile) [] [] (He.ma K (He.ga K "Coder") "pile") fd := T.says.def_ 30 (d := d_Coder_pile) rfl
theorem Env.F_Coder_steps (T : Env K mg) : ∃ fd, FunD K "steps" "Coder.steps" (defArgs s_Coder_steps) (defBody s_Coder_steps) (defScope s_Coder_steps) [] [] (He.ma K (He.ga K "Coder") "steps") fd := T.says.def_ 31 (d := d_Coder_steps) rfl
theorem Env.F_machine_of (T : Env K mg) : ∃ fd, FunD K "machine_of" "machine_of" (defArgs s_machine_of) (defBody s_machine_of) (defScope s_machine_of) [] [] (He.ga K "machine_of") fd := T.says.def_ 32 (d := d_machine_of) rfl
theorem Env.F_configuration_of (T : Env K mg) : ∃ fd, FunD K "configuration_of" "configuration_of" (defArgs s_configuration_of) (defBody s_configuration_of) (defScope s_configuration_of) [] [] (He.ga K "configuration_of") fd := T.says.def_ 33 (d := d_configuration_of) rfl
theorem Env.F_Heads___init__ (T : Env K mg) : ∃ fd, FunD K "__init__" "Heads.__init__" (defArgs s_Heads___init__) (defBody s_Heads___init__) (defScope s_Heads___init__) [] [] (He.ma K (He.ga K "Heads") "__init__") fd := T.says.def_ 34 (d := d_Heads___init__) rfl
theorem Env.F_Heads_put (T : Env K mg) : ∃ fd, FunD K "put" "Heads.put" (defArgs s_Heads_put) (defBody s_Heads_put) (defScope s_Heads_put) [] [] (He.ma K (He.ga K "Heads") "put") fd := T.says.def_ 35 (d := d_Heads_put) rfl
theorem Env.F_Heads_moves_from (T : Env K mg) : ∃ fd, FunD K "moves_from" "Heads.moves_from" (defArgs s_Heads_moves_from) (defBody s_Heads_moves_from) (defScope s_Heads_moves_from) [] [] (He.ma K (He.ga K "Heads") "moves_from") fd := T.says.def_ 36 (d := d_Heads_moves_from) rfl
theorem Env.F_Heads_reached (T : Env K mg) : ∃ fd, FunD K "reached" "Heads.reached" (defArgs s_Heads_reached) (defBody s_Heads_reached) (defScope s_Heads_reached) [] [] (He.ma K (He.ga K "Heads") "reached") fd := T.says.def_ 37 (d := d_Heads_reached) rfl
theorem Env.F_way_to (T : Env K mg) : ∃ fd, FunD K "way_to" "way_to" (defArgs s_way_to) (defBody s_way_to) (defScope s_way_to) [] [] (He.ga K "way_to") fd := T.says.def_ 38 (d := d_way_to) rfl
theorem Env.F_TakeOff___init__ (T : Env K mg) : ∃ fd, FunD K "__init__" "TakeOff.__init__" (defArgs s_TakeOff___init__) (defBody s_TakeOff___init__) (defScope s_TakeOff___init__) [] [] (He.ma K (He.ga K "TakeOff") "__init__") fd := T.says.def_ 39 (d := d_TakeOff___init__) rfl
theorem Env.F_TakeOff_entries (T : Env K mg) : ∃ fd, FunD K "entries" "TakeOff.entries" (defArgs s_TakeOff_entries) (defBody s_TakeOff_entries) (defScope s_TakeOff_entries) [] [] (He.ma K (He.ga K "TakeOff") "entries") fd := T.says.def_ 40 (d := d_TakeOff_entries) rfl
theorem Env.F_TakeOff_use (T : Env K mg) : ∃ fd, FunD K "use" "TakeOff.use" (defArgs s_TakeOff_use) (defBody s_TakeOff_use) (defScope s_TakeOff_use) [] [] (He.ma K (He.ga K "TakeOff") "use") fd := T.says.def_ 41 (d := d_TakeOff_use) rfl
theorem Env.F_descents (T : Env K mg) : ∃ fd, FunD K "descents" "descents" (defArgs s_descents) (defBody s_descents) (defScope s_descents) [] [] (He.ga K "descents") fd := T.says.def_ 42 (d := d_descents) rfl
theorem Env.F_ring_at (T : Env K mg) : ∃ fd, FunD K "ring_at" "ring_at" (defArgs s_ring_at) (defBody s_ring_at) (defScope s_ring_at) [] [] (He.ga K "ring_at") fd := T.says.def_ 43 (d := d_ring_at) rfl
theorem Env.F_told_ranks (T : Env K mg) : ∃ fd, FunD K "told_ranks" "told_ranks" (defArgs s_told_ranks) (defBody s_told_ranks) (defScope s_told_ranks) [] [] (He.ga K "told_ranks") fd := T.says.def_ 44 (d := d_told_ranks) rfl
theorem Env.F_told_moves (T : Env K mg) : ∃ fd, FunD K "told_moves" "told_moves" (defArgs s_told_moves) (defBody s_told_moves) (defScope s_told_moves) [] [] (He.ga K "told_moves") fd := T.says.def_ 45 (d := d_told_moves) rfl
theorem Env.F_endless (T : Env K mg) : ∃ fd, FunD K "endless" "endless" (defArgs s_endless) (defBody s_endless) (defScope s_endless) [] [] (He.ga K "endless") fd := T.says.def_ 46 (d := d_endless) rfl
theorem Env.F_letters_at (T : Env K mg) : ∃ fd, FunD K "letters_at" "letters_at" (defArgs s_letters_at) (defBody s_letters_at) (defScope s_letters_at) [] [] (He.ga K "letters_at") fd := T.says.def_ 47 (d := d_letters_at) rfl
theorem Env.F_place_marks (T : Env K mg) : ∃ fd, FunD K "place_marks" "place_marks" (defArgs s_place_marks) (defBody s_place_marks) (defScope s_place_marks) [] [] (He.ga K "place_marks") fd := T.says.def_ 48 (d := d_place_marks) rfl
theorem Env.F_passes_ever (T : Env K mg) : ∃ fd, FunD K "passes_ever" "passes_ever" (defArgs s_passes_ever) (defBody s_passes_ever) (defScope s_passes_ever) [] [] (He.ga K "passes_ever") fd := T.says.def_ 49 (d := d_passes_ever) rfl
theorem Env.F__law_numbers (T : Env K mg) : ∃ fd, FunD K "_law_numbers" "_law_numbers" (defArgs s__law_numbers) (defBody s__law_numbers) (defScope s__law_numbers) [] [] (He.ga K "_law_numbers") fd := T.says.def_ 50 (d := d__law_numbers) rfl
theorem Env.F__law_pick (T : Env K mg) : ∃ fd, FunD K "_law_pick" "_law_pick" (defArgs s__law_pick) (defBody s__law_pick) (defScope s__law_pick) [] [] (He.ga K "_law_pick") fd := T.says.def_ 51 (d := d__law_pick) rfl
theorem Env.F__law_variable (T : Env K mg) : ∃ fd, FunD K "_law_variable" "_law_variable" (defArgs s__law_variable) (defBody s__law_variable) (defScope s__law_variable) [] [] (He.ga K "_law_variable") fd := T.says.def_ 52 (d := d__law_variable) rfl
theorem Env.F__law_expression (T : Env K mg) : ∃ fd, FunD K "_law_expression" "_law_expression" (defArgs s__law_expression) (defBody s__law_expression) (defScope s__law_expression) [] [] (He.ga K "_law_expression") fd := T.says.def_ 53 (d := d__law_expression) rfl
theorem Env.F__law_body (T : Env K mg) : ∃ fd, FunD K "_law_body" "_law_body" (defArgs s__law_body) (defBody s__law_body) (defScope s__law_body) [] [] (He.ga K "_law_body") fd := T.says.def_ 54 (d := d__law_body) rfl
theorem Env.F__law_statement (T : Env K mg) : ∃ fd, FunD K "_law_statement" "_law_statement" (defArgs s__law_statement) (defBody s__law_statement) (defScope s__law_statement) [] [] (He.ga K "_law_statement") fd := T.says.def_ 55 (d := d__law_statement) rfl
theorem Env.F__law_program (T : Env K mg) : ∃ fd, FunD K "_law_program" "_law_program" (defArgs s__law_program) (defBody s__law_program) (defScope s__law_program) [] [] (He.ga K "_law_program") fd := T.says.def_ 56 (d := d__law_program) rfl
theorem Env.F__law_bodies (T : Env K mg) : ∃ fd, FunD K "_law_bodies" "_law_bodies" (defArgs s__law_bodies) (defBody s__law_bodies) (defScope s__law_bodies) [] [] (He.ga K "_law_bodies") fd := T.says.def_ 57 (d := d__law_bodies) rfl
theorem Env.F__law_size (T : Env K mg) : ∃ fd, FunD K "_law_size" "_law_size" (defArgs s__law_size) (defBody s__law_size) (defScope s__law_size) [] [] (He.ga K "_law_size") fd := T.says.def_ 58 (d := d__law_size) rfl
theorem Env.F__law_fill (T : Env K mg) : ∃ fd, FunD K "_law_fill" "_law_fill" (defArgs s__law_fill) (defBody s__law_fill) (defScope s__law_fill) [] [] (He.ga K "_law_fill") fd := T.says.def_ 59 (d := d__law_fill) rfl
theorem Env.F__law_table (T : Env K mg) : ∃ fd, FunD K "_law_table" "_law_table" (defArgs s__law_table) (defBody s__law_table) (defScope s__law_table) [] [] (He.ga K "_law_table") fd := T.says.def_ 60 (d := d__law_table) rfl
theorem Env.F__law_value (T : Env K mg) : ∃ fd, FunD K "_law_value" "_law_value" (defArgs s__law_value) (defBody s__law_value) (defScope s__law_value) [] [] (He.ga K "_law_value") fd := T.says.def_ 61 (d := d__law_value) rfl
theorem Env.F__law_with (T : Env K mg) : ∃ fd, FunD K "_law_with" "_law_with" (defArgs s__law_with) (defBody s__law_with) (defScope s__law_with) [] [] (He.ga K "_law_with") fd := T.says.def_ 62 (d := d__law_with) rfl
theorem Env.F__law_frame (T : Env K mg) : ∃ fd, FunD K "_law_frame" "_law_frame" (defArgs s__law_frame) (defBody s__law_frame) (defScope s__law_frame) [] [] (He.ga K "_law_frame") fd := T.says.def_ 63 (d := d__law_frame) rfl
theorem Env.F__law_first (T : Env K mg) : ∃ fd, FunD K "_law_first" "_law_first" (defArgs s__law_first) (defBody s__law_first) (defScope s__law_first) [] [] (He.ga K "_law_first") fd := T.says.def_ 64 (d := d__law_first) rfl
theorem Env.F__law_after (T : Env K mg) : ∃ fd, FunD K "_law_after" "_law_after" (defArgs s__law_after) (defBody s__law_after) (defScope s__law_after) [] [] (He.ga K "_law_after") fd := T.says.def_ 65 (d := d__law_after) rfl
theorem Env.F__law_world (T : Env K mg) : ∃ fd, FunD K "_law_world" "_law_world" (defArgs s__law_world) (defBody s__law_world) (defScope s__law_world) [] [] (He.ga K "_law_world") fd := T.says.def_ 66 (d := d__law_world) rfl
theorem Env.F__law_is_at (T : Env K mg) : ∃ fd, FunD K "_law_is_at" "_law_is_at" (defArgs s__law_is_at) (defBody s__law_is_at) (defScope s__law_is_at) [] [] (He.ga K "_law_is_at") fd := T.says.def_ 67 (d := d__law_is_at) rfl
theorem Env.F__law_is_on_ring (T : Env K mg) : ∃ fd, FunD K "_law_is_on_ring" "_law_is_on_ring" (defArgs s__law_is_on_ring) (defBody s__law_is_on_ring) (defScope s__law_is_on_ring) [] [] (He.ga K "_law_is_on_ring") fd := T.says.def_ 68 (d := d__law_is_on_ring) rfl
theorem Env.F_law (T : Env K mg) : ∃ fd, FunD K "law" "law" (defArgs s_law) (defBody s_law) (defScope s_law) [] [] (He.ga K "law") fd := T.says.def_ 69 (d := d_law) rfl
end
end Pr
set_option maxHeartbeats 0
namespace Pr
open PySem PySem.Spec PyProof.Rows L2
abbrev R : PySem.W.OpenRow := PySem.W.OpenLaw.row PySem.Challenge.rw_pilereach_k78_whole_places_for_ever

def at_0 : List Addr := [3, 6, 4, 48, 62, 75, 96, 132, 141, 163, 174, 215, 243, 264, 297, 308, 315, 320, 356, 367, 374, 381, 388, 424, 435, 442, 480, 491, 522, 533]
def at_1 : List Addr := [540, 547, 554, 559, 566, 571, 578, 585, 592, 599, 606, 613, 620, 627, 634, 639, 646, 653, 658, 665, 670, 675, 680, 687, 694, 699, 704, 711, 0, 47]
def at_2 : List Addr := [61, 74, 95, 131, 140, 162, 173, 214, 242, 263, 296, 307, 314, 319, 355, 366, 373, 380, 387, 423, 434, 441, 479, 490, 521, 532, 539, 546, 553, 558]
def at_3 : List Addr := [565, 570, 577, 584, 591, 598, 605, 612, 619, 626, 633, 638, 645, 652, 657, 664, 669, 674, 679, 686, 693, 698, 703, 710, 28, 33, 40, 45, 46, 49]
def at_4 : List Addr := [50, 60, 63, 73, 93, 94, 114, 122, 129, 130, 133, 134, 137, 138, 139, 153, 160, 161, 164, 165, 168, 169, 170, 171, 172, 188, 195, 200, 207, 212]
def at_5 : List Addr := [213, 216, 217, 233, 240, 241, 244, 245, 261, 262, 265, 266, 282, 287, 294, 295, 298, 299, 302, 303, 304, 305, 306, 309, 310, 311, 312, 313, 316, 317]
def at_6 : List Addr := [318, 334, 341, 346, 353, 354, 357, 358, 361, 362, 363, 364, 365, 368, 369, 370, 371, 372, 375, 376, 377, 378, 379, 382, 383, 384, 385, 386, 402, 409]
def at_7 : List Addr := [414, 421, 422, 425, 426, 429, 430, 431, 432, 433, 436, 437, 438, 439, 440, 456, 463, 470, 477, 478, 481, 482, 485, 486, 487, 488, 489, 505, 512, 519]
def at_8 : List Addr := [520, 523, 524, 527, 528, 529, 530, 531, 534, 535, 536, 537, 538, 541, 542, 543, 544, 545, 548, 549, 550, 551, 552, 555, 556, 557, 560, 561, 562, 563]
def at_9 : List Addr := [564, 567, 568, 569, 572, 573, 574, 575, 576, 579, 580, 581, 582, 583, 586, 587, 588, 589, 590, 593, 594, 595, 596, 597, 600, 601, 602, 603, 604, 607]
def at_10 : List Addr := [608, 609, 610, 611, 614, 615, 616, 617, 618, 621, 622, 623, 624, 625, 628, 629, 630, 631, 632, 635, 636, 637, 640, 641, 642, 643, 644, 647, 648, 649]
def at_11 : List Addr := [650, 651, 654, 655, 656, 659, 660, 661, 662, 663, 666, 667, 668, 671, 672, 673, 676, 677, 678, 681, 682, 683, 684, 685, 688, 689, 690, 691, 692, 695]
def at_12 : List Addr := [696, 697, 700, 701, 702, 705, 706, 707, 708, 709, 27, 32, 39, 44, 92, 81, 113, 107, 121, 128, 152, 159, 187, 194, 199, 206, 211, 232, 239, 260]
def at_13 : List Addr := [281, 286, 293, 333, 340, 345, 352, 401, 408, 413, 420, 455, 462, 469, 476, 504, 511, 518, 22, 23, 24, 25, 26, 29, 30, 31, 34, 35, 36, 37]
def at_14 : List Addr := [38, 41, 42, 43, 87, 88, 89, 90, 91, 108, 109, 110, 111, 112, 106, 120, 123, 124, 125, 126, 127, 149, 150, 151, 154, 155, 156, 157, 158, 182]
def at_15 : List Addr := [183, 184, 185, 186, 189, 190, 191, 192, 193, 196, 197, 198, 201, 202, 203, 204, 205, 208, 209, 210, 227, 228, 229, 230, 231, 234, 235, 236, 237, 238]
def at_16 : List Addr := [255, 256, 257, 258, 259, 276, 277, 278, 279, 280, 283, 284, 285, 288, 289, 290, 291, 292, 328, 329, 330, 331, 332, 335, 336, 337, 338, 339, 342, 343]
def at_17 : List Addr := [344, 347, 348, 349, 350, 351, 396, 397, 398, 399, 400, 403, 404, 405, 406, 407, 410, 411, 412, 415, 416, 417, 418, 419, 450, 451, 452, 453, 454, 457]
def at_18 : List Addr := [458, 459, 460, 461, 464, 465, 466, 467, 468, 471, 472, 473, 474, 475, 499, 500, 501, 502, 503, 506, 507, 508, 509, 510, 513, 514, 515, 516, 517]
def at_ : List Addr := at_0 ++ (at_1 ++ (at_2 ++ (at_3 ++ (at_4 ++ (at_5 ++ (at_6 ++ (at_7 ++ (at_8 ++ (at_9 ++ (at_10 ++ (at_11 ++ (at_12 ++ (at_13 ++ (at_14 ++ (at_15 ++ (at_16 ++ (at_17 ++ (at_18))))))))))))))))))
/-- a hook whose fragment is laid by the addresses themselves: nothing has to be found first -/
def hk : PySem.W.Hook := { He.hookD 5 fa fn with
  obs := fun s => He.obsD fa fn (He.frG s.heap.get? at_)
  of := fun _ _ told => ⟨He.frG _ at_, He.frG_in, told⟩ }
def ob (s : PySem.W.SharedT) : He.AlD := He.obsD fa fn (He.frG (HandSHeadRun.getT s) at_)
theorem ob_eq (s : PySem.W.SharedT) : ob s = hk.obs s.abs := by
  have e : HandSHeadRun.getT s = s.abs.heap.get? := funext (HandSHeadRun.getT_eq s)
  unfold ob
  rw [e]
  rfl
def loose0 : List PySem.Str := ["__name__", "Rows", "PileError", "InvalidMachine", "InvalidProgram", "Step", "fits", "Machine", "MOST_PLACE", "bodies", "Scope", "Program", "Point", "Points", "value_of", "with_value", "no_values", "Walker", "begin", "twos", "number_of", "values_of", "Coder", "machine_of", "configuration_of", "Heads", "way_to", "TakeOff", "descents", "ring_at"]
def loose1 : List PySem.Str := ["told_ranks", "told_moves", "endless", "letters_at", "place_marks", "passes_ever", "_law_numbers", "_law_pick", "_law_variable", "_law_expression", "_law_body", "_law_statement", "_law_program", "_law_bodies", "_law_size", "_law_fill", "_law_table", "_law_value", "_law_with", "_law_frame", "_law_first", "_law_after", "_law_world", "_law_is_at", "_law_distances", "_law_is_on_ring"]
def loose : List PySem.Str := loose0 ++ (loose1)
theorem run (w : World) : HandSHeadRun.RunEq R (PySem.W.view R.prog [67]) hk ob 20000 loose w := by
  intro os
  kernel_rfl
end Pr

set_option maxHeartbeats 4000000
/-! enumerate(tuple) -/
namespace PySem
open Sem (wp)
theorem pr_meets_enum {v : Value} {o : Obj} {H : Heap → Prop} (B : Begins v o H) :
    Meets (Builtin.«enumerate.__new__» ⟨[.type "enumerate", v], []⟩) (fun _ R s => H s.heap ∧
      R (.ok (.ret (.ref (s.heap.push o).objs.size))) { s with heap := (s.heap.push o).push { cls := .type "enumerate", data := .fields #[.none, .bool false, .ref s.heap.objs.size, rawInt 0, .none, .none] } }) :=
  .of_wp fun prog w A R s h => by
    obtain ⟨hp, g, d, tk, os⟩ := s; obtain ⟨h1, h⟩ := h
    have hsub := sub_enumerate
    have q1 : ∀ {A' : Around} {E : Value → Shared → Prop} {Q : Value → Shared → Prop}, Q (.ref hp.objs.size) ⟨hp.push o, g, d, tk, os⟩ → wpAny (model prog w) A' (pyIter v) Q E ⟨hp, g, d, tk, os⟩ :=
      fun q => B.iter prog w _ _ ⟨hp, g, d, tk, os⟩ _ h1 q
    wp_walk using q1
    refine wpAny_stack_any fun st => wpAny_pure ?_
    split
    · rename_i c _ _ _ _ _
      cases (c == Value.type "enumerate")
      · wp_walk using q1
        exact ⟨_, rfl, h⟩
      · wp_walk using q1
        exact ⟨_, rfl, h⟩
    · wp_walk using q1
      exact ⟨_, rfl, h⟩
section
variable {prog : Program} {w : World} {A : Around} {E : Value → Shared → Prop} {s : Shared}
theorem pr_enum {v : Value} {o : Obj} {H : Heap → Prop} {Q : Value → Shared → Prop} (B : Begins v o H) (h1 : H s.heap)
    (h : ∀ h', IsEnum h' (s.heap.objs.size + 1) s.heap.objs.size 0 .none → h'.get? s.heap.objs.size = some o → h'.objs.size = s.heap.objs.size + 2 →
      (∀ b o, s.heap.get? b = some o → h'.get? b = some o) → Q (.ref (s.heap.objs.size + 1)) { s with heap := h' }) :
    wpAny (model prog w) A (call (.type "enumerate") [v]) Q E s := by
  refine callType_new F.called_enumerate (by decide) (F.typeCall_enumerate_1 _) (F.newCall_enumerate_1 _) (fun obj => F.args_object_init_2 obj _) F.entry_enumerate_new
    (pr_meets_enum B) ⟨h1, ?_⟩
  have hz : (s.heap.push o).objs.size = s.heap.objs.size + 1 := Heap.size_push ..
  show _ ∧ _
  rw [hz]
  have he : IsEnum ((s.heap.push o).push { cls := .type "enumerate", data := .fields #[.none, .bool false, .ref s.heap.objs.size, rawInt 0, .none, .none] }) (s.heap.objs.size + 1) s.heap.objs.size 0 .none := by
    have := Heap.get?_push_size (s.heap.push o) (o := { cls := .type "enumerate", data := .fields #[.none, .bool false, .ref s.heap.objs.size, rawInt 0, .none, .none] }) rfl
    rw [hz] at this; exact this
  refine ⟨⟨_, he, rfl⟩, h _ he (Heap.get?_push_of_some _ (Heap.get?_push_size _ B.free)) (by rw [Heap.size_push, hz]) fun b o x => Heap.get?_push_of_some _ (Heap.get?_push_of_some _ x)⟩
end
end PySem
namespace Pr
open PySem PySem.Spec PyProof.Rows L2
/-- the tuple at a, each item in a new pair -/
def IteT (K : PySem.W.Frag) (a : Addr) (n : Nat) : It :=
  ⟨fun i H => i < n ∧ ∃ (xs : List V) (x : V), SqT K H a xs ∧ xs[i]? = some x, fun i H v H' => ∃ T x, v = .ref T ∧ H T = none ∧ H' = upd H T (.tup [.int (i : Nat), x]) ∧ ∀ xs, SqT K H a xs → xs[i]? = some x, fun i H => n ≤ i ∧ ∃ xs : List V, SqT K H a xs ∧ xs.length = n⟩
theorem turn_enumT {P : Program} {w : World} {K : PySem.W.Frag} {elts : List Expr} {kk : Nat} {tpos : Pos} (a e it : Addr) (n : Nat) (hait : a ≠ it) :
    Turn P w K (.Tuple elts kk tpos) (IteT K a n) [e, it] e (fun i h => (∃ old, IsEnum h e it ((i : Nat) : Int) old) ∧ h.IsTupleIter it a i ∧ e ≠ it ∧ i ≤ n) where
  mem := by simp
  obj := fun i h st b hb => by
    obtain ⟨⟨old, he⟩, ⟨o, ho, hc, hd⟩, _⟩ := st
    have e' : b = e ∨ b = it := by simpa using hb
    rcases e' with z | z
    · rw [z]; exact ⟨_, he, fun v q => nomatch q⟩
    · rw [z]; exact ⟨o, ho, fun v q => by rw [hd] at q; cases q⟩
  keep := fun i h h' st k => let ⟨⟨old, he⟩, hi, hne, hle⟩ := st; ⟨⟨old, k e (by simp) _ he⟩, hi.at fun o q => k it (by simp) o q, hne, hle⟩
  item := by
    intro X hP hw hK hc i pins s σ H E I hf st hg
    subst hP hw hK
    obtain ⟨⟨old, he⟩, hit, hne, hile⟩ := st
    obtain ⟨hin, xs, x, hq, hx⟩ := hg
    obtain ⟨its, rv, p, hz⟩ := I.tuple hq
    obtain ⟨u, hu, ru⟩ := rv.get hx
    have hel : e < s.heap.objs.size := Heap.lt_size he
    have hil : it < s.heap.objs.size := by obtain ⟨_, q, _⟩ := hit; exact Heap.lt_size q
    have hil' : i < its.toArray.size := by have := (List.getElem?_eq_some_iff.mp hu).1; simpa using this
    refine wpAny_pyNext_enum_itemD (e := e) (Draws.tuple (A := X.A.in1) (I.ok.hd hc) it a hait its.toArray) he ⟨hit, p⟩ hil' hne (fun z => by
      have e' : e = it ∨ e = a := by simpa using z
      rcases e' with z | z
      · exact hne z
      · obtain ⟨oo, ho, hcl, _⟩ := p
        rw [z] at he
        rw [he] at ho
        cases ho
        simp at hcl) fun y h' tk hP ho hit' hT hsz hk => ?_
    have ey : y = u := by
      have : its.toArray[i]? = some u := by simpa using hu
      rw [this] at hP
      exact (Option.some.inj hP).symm
    subst ey
    refine ⟨_, rfl, wpAny_letOwnedTupleGo_enum (s := { s with heap := h', toks := tk + 1 }) ho fun h'' he' sb => ?_⟩
    have hT2 : h''.get? s.heap.objs.size = some { cls := .type "tuple", data := .seq #[.int i tk, y] } := (sb.2 _ (Nat.ne_of_gt hel)).trans hT
    have new : ObjOk X.prog X.w (upd H s.heap.objs.size (.tup [.int (i : Nat), x])) h'' s.heap.objs.size (.tup [.int (i : Nat), x]) :=
      ⟨by show 2 ≤ sizeLine; decide, [.int i tk, y], .cons ⟨_, rfl⟩ (.cons ru .nil), ⟨_, hT2, rfl, _, rfl⟩⟩
    have I1 : Inv X pins σ (upd H s.heap.objs.size (.tup [.int (i : Nat), x])) { s with heap := h'', toks := tk + 1 } :=
      I.turnedNew (ch := [e, it]) (fun b ob hb q => (sb.2 b (fun z => hb (by simp [z]))).trans (hk b ob (fun z => hb (by simp [z])) (fun z => hb (by simp [z])) q)) hf (Nat.le_refl _) new
    refine ⟨.ref s.heap.objs.size, _, I1, rfl, ⟨_, x, rfl, I.hok.fresh (Nat.le_refl _), rfl, fun ys hy => by rw [I.tuple_inj hy hq]; exact hx⟩, ⟨⟨y, ?_⟩, hit'.1.at fun o q => (sb.2 it (Ne.symm hne)).trans q, hne, hin⟩, fun b hb => ?_⟩
    · have e1 : ((i + 1 : Nat) : Int) = (i : Int) + 1 := by omega
      rw [e1]; exact he'
    · have hb' : b < s.heap.objs.size := by
        have e' : b = e ∨ b = it := by simpa using hb
        rcases e' with z | z
        · rw [z]; exact hel
        · rw [z]; exact hil
      rw [upd_ne (Nat.ne_of_lt hb')]
      exact (hf b hb).1
  done := by
    intro X hP hw hK hc i pins s σ H E I hf st hg
    subst hP hw hK
    obtain ⟨⟨old, he⟩, hit, hne, hile⟩ := st
    obtain ⟨hni, xs, hq, hx⟩ := hg
    obtain ⟨its, rv, p, hz⟩ := I.tuple hq
    obtain ⟨f0, f1, f2, f3, f4, f5⟩ := hf it (by simp)
    have hl := rv.length
    have ei : i = its.toArray.size := by simp; omega
    subst ei
    exact wpAny_pyNext_enum_endD (Draws.tuple (A := X.A.in1) (I.ok.hd hc) it a hait its.toArray) he ⟨hit, p⟩ fun h' eb => ⟨rfl, I.turned (t' := s.toks) (fun b o hb q => eb b o hb q) f0 f1 f3 f4 f5⟩
  self := fun A i s Q E st h => let ⟨⟨_, he⟩, _⟩ := st; wpAny_pyIter_enum he h
def iEnumT (K : PySem.W.Frag) (ta : TA) : TI := fun σ H R => ta σ H fun vs H1 => ∃ a xs, vs = [.ref a] ∧ SqT K H1 a xs ∧ R (IteT K a xs.length) H1
theorem pi_enumT {X : Cx} {e : Expr} {ta : TA} {p pos tpos : Pos} {elts : List Expr} {kk : Nat} (hg : Gl X "enumerate") (hm : X.mg "enumerate" = none) (ha : PA X [e] ta) (hs : starEach [e] X.env = [(false, eval e X.env)] := by rfl) :
    PI X (.Tuple elts kk tpos) (.Call (.Name "enumerate" p) [e] [] pos) (iEnumT X.K ta) := by
  refine ⟨fun pins s σ H R I h => ?_⟩
  refine Call_ (ld_blt I hg hm boot_enumerate (PyProof.Rows.callWith_type1 (thn (ha.run pos pins s σ H _ I h) fun us s1 ⟨vs, H1, I1, r1, q1⟩ => ?_) hs rfl))
  obtain ⟨a, xs, ex, hq, q⟩ := q1
  subst ex
  cases r1 with
  | cons r rr =>
    cases rr
    cases r
    obtain ⟨its, rv, p', hz⟩ := I1.tuple hq
    have hla : a < s1.heap.objs.size := p'.lt
    refine pr_enum (begins_tuple a its.toArray) p' fun h' he hit hsz hk => wpAny_pyIter_enum he ?_
    have I2 : Inv X pins σ H1 { s1 with heap := h' } := I1.kept (t' := s1.toks) hk
    refine ⟨s1.heap.objs.size + 1, [s1.heap.objs.size + 1, s1.heap.objs.size], _, _, H1, rfl, I2, turn_enumT a (s1.heap.objs.size + 1) s1.heap.objs.size xs.length (Nat.ne_of_lt hla), ⟨⟨.none, he⟩, ⟨_, hit, rfl, rfl⟩, Nat.succ_ne_self _, Nat.zero_le _⟩, fun b hb => ?_, q⟩
    have e' : b = s1.heap.objs.size + 1 ∨ b = s1.heap.objs.size := by simpa using hb
    have hle : s1.heap.objs.size ≤ b := by
      rcases e' with z | z
      · rw [z]; exact Nat.le_add_right _ _
      · rw [z]; exact Nat.le_refl _
    exact I1.fpOk hle (I1.hok.fresh hle)
theorem walk_enumT {K : PySem.W.Frag} {a : Addr} {xs : List V} : Walk (IteT K a xs.length) xs.length (fun H => SqT K H a xs) (YPair (fun i => some (.int (i : Nat))) (fun i => xs[i]?)) := by
  refine ⟨fun i _ hi q => ⟨hi, xs, xs[i], q, by simp [hi]⟩, fun _ q => ⟨Nat.le_refl _, xs, q, rfl⟩, fun i H v H' _ q y => ?_⟩
  obtain ⟨T, x, h1, h2, h3, h4⟩ := y
  exact ⟨T, .int (i : Nat), x, h1, h2, h3, rfl, h4 xs q⟩
end Pr
/-! dicts whose keys are tuples of numbers and truth values; setdefault where keys are tuples -/
namespace Pr
open PySem PySem.Spec PyProof.Rows L2
/-- what stands at a key's place -/
def LfIs (k : Leaf) (x : V) : Prop := ∀ u, RelV x u → Leaf.isOf k u = true
theorem LfIs.int (i : Int) : LfIs (.num i) (.int i) := fun u r => by
  obtain ⟨t, rfl⟩ := (show ∃ t, u = Value.int i t from r)
  exact decide_eq_true rfl
theorem LfIs.bl (b : Bool) : LfIs (.num (if b = true then 1 else 0)) (.bl b) := fun u r => by
  obtain rfl : u = Value.bool b := r
  exact decide_eq_true rfl
def KeyAt (H : Hp) (b : Addr) (ks : List Leaf) : Prop := ∃ xs, H b = some (.tup xs) ∧ Paired LfIs ks xs
theorem KeyAt.tups {H H' : Hp} {b : Addr} {ks : List Leaf} (h : KeyAt H b ks) (t : ∀ c xs, H c = some (.tup xs) → H' c = some (.tup xs)) : KeyAt H' b ks := let ⟨xs, e, p⟩ := h; ⟨xs, t _ _ e, p⟩
abbrev QE := List Leaf × Addr × V
def KeysAt (H : Hp) (kvs : List QE) : Prop := ∀ p ∈ kvs, KeyAt H p.2.1 p.1
theorem KeysAt.tups {H H' : Hp} {kvs : List QE} (h : KeysAt H kvs) (t : ∀ c xs, H c = some (.tup xs) → H' c = some (.tup xs)) : KeysAt H' kvs := fun p hp => (h p hp).tups t
theorem KeysAt.snoc {H : Hp} {kvs : List QE} {k : List Leaf} {b : Addr} {v : V} (h : KeysAt H kvs) (e : KeyAt H b k) : KeysAt H (kvs ++ [(k, b, v)]) := fun p hp => by
  rcases List.mem_append.mp hp with q | q
  · exact h p q
  · have : p = (k, b, v) := by simpa using q
    rw [this]
    exact e
def valQ (kvs : List QE) (k : List Leaf) : Option V := (kvs.find? fun x => decide (x.1 = k)).map (·.2.2)
abbrev QP : List QE → List (List Leaf × Addr × Value) → Prop := Paired fun p q => p.1 = q.1 ∧ p.2.1 = q.2.1 ∧ RelV p.2.2 q.2.2
section
variable (P : Program) (w : World)
def QIs (a : Addr) (kvs : List QE) (h : Heap) : Prop := kvs.length ≤ sizeLine ∧ (a == sysModules) = false ∧ ∃ xs, QP kvs xs ∧ ∃ o es ep, h.get? a = some o ∧ o.ExactDict ∧ o.data = .dict es ep ∧ es.toList = xs.map (entryOfKey (tupleKind (leafKind P w))) ∧ (xs.map (·.1)).Nodup
/-- the dict at a -/
def QO (a : Addr) (kvs : List QE) : HO := .ext (QIs P w a kvs)
end
section
variable {P : Program} {w : World} {H : Hp} {h : Heap} {a b : Addr} {kvs : List QE} {k : List Leaf}
theorem qis_at {h' : Heap} (q : QIs P w a kvs h) (k : ∀ o, h.get? a = some o → h'.get? a = some o) : QIs P w a kvs h' := by
  obtain ⟨z, y, xs, r, o, es, ep, e, c⟩ := q
  exact ⟨z, y, xs, r, o, es, ep, k _ e, c⟩
theorem qo_ok (q : QIs P w a kvs h) : ObjOk P w H h a (QO P w a kvs) :=
  ⟨q, let ⟨_, _, _, _, o, _, _, e, _⟩ := q; ⟨o, e⟩, fun h1 h2 x k => qis_at x k⟩
theorem qitems : ∀ {ks : List Leaf} {xs : List V} {us : List Value}, Paired LfIs ks xs → Vals xs us → ItemsAre (leafKind P w) ks us
  | _, _, _, .nil, .nil => .nil
  | _, _, _, .cons h t, .cons r rr => .cons (h _ r) (qitems t rr)
theorem key_ofQ (ok : HOk P w H h) (e : KeyAt H b k) : (tupleKind (leafKind P w)).is h k b := by
  obtain ⟨xs, e, p⟩ := e
  obtain ⟨_, its, r, o, h1, h2, n, h3⟩ := (show ObjOk P w H h b (.tup xs) from ok b _ e)
  exact ⟨o, its.toArray, n, h1, h2, h3, by simpa using qitems p r⟩
theorem q_of (ok : HOk P w H h) (e : H a = some (QO P w a kvs)) (ke : KeysAt H kvs) : kvs.length ≤ sizeLine ∧ (a == sysModules) = false ∧ ∃ xs, QP kvs xs ∧ h.DictOfH (tupleKind (leafKind P w)) a xs := by
  obtain ⟨⟨z, y, xs, r, o, es, ep, h1, h2, h3, h4, h5⟩, _⟩ := (show ObjOk P w H h a (QO P w a kvs) from ok a _ e)
  refine ⟨z, y, xs, r, o, es, ep, h1, h2, h3, h4, fun x hx => ?_, h5⟩
  have all : ∀ {l : List QE} {m : List (List Leaf × Addr × Value)}, QP l m → KeysAt H l → ∀ x ∈ m, (tupleKind (leafKind P w)).is h x.1 x.2.1 := by
    intro l m q
    induction q with
    | nil => intro _ x hx; exact nomatch hx
    | @cons p q ps qs hq t ih =>
      intro kl x hx
      rcases List.mem_cons.mp hx with e | hx
      · subst e
        have := kl p (List.mem_cons_self ..)
        rw [hq.1, hq.2.1] at this
        exact key_ofQ ok this
      · exact ih (fun p hp => kl p (List.mem_cons_of_mem _ hp)) x hx
  exact all r ke x hx
theorem QP.val {xs : List (List Leaf × Addr × Value)} (r : QP kvs xs) (k : List Leaf) : RelO (valQ kvs k) ((atKey xs k).map (·.2)) := by
  induction r with
  | nil => exact trivial
  | @cons p q ps qs hq t ih =>
    unfold valQ atKey at *
    rw [List.find?_cons, List.find?_cons, ← hq.1]
    by_cases e : p.1 = k
    · rw [decide_eq_true e]
      exact hq.2.2
    · rw [decide_eq_false e]
      exact ih
theorem QP.snoc {xs : List (List Leaf × Addr × Value)} {v : V} {u : Value} (r : QP kvs xs) (rv : RelV v u) : QP (kvs ++ [(k, b, v)]) (xs ++ [(k, b, u)]) := by
  induction r with
  | nil => exact .cons ⟨rfl, rfl, rv⟩ .nil
  | cons h t ih => exact .cons h ih
theorem qnone {xs : List (List Leaf × Addr × Value)} (r : QP kvs xs) (hn : valQ kvs k = none) : atKey xs k = none := by
  have q := r.val k
  rw [hn] at q
  cases e : atKey xs k with
  | none => rfl
  | some p =>
    rw [e] at q
    exact (show False from q).elim
end
theorem valQ_snoc (kvs : List QE) (k j : List Leaf) (b : Addr) (y : V) (h : valQ kvs k = none) : valQ (kvs ++ [(k, b, y)]) j = if j = k then some y else valQ kvs j := by
  unfold valQ at *
  rw [List.find?_append]
  by_cases e : j = k
  · subst e
    rw [if_pos rfl]
    have : kvs.find? (fun x => decide (x.1 = j)) = none := by
      cases q : kvs.find? (fun x => decide (x.1 = j)) with
      | none => rfl
      | some z => rw [q] at h; cases h
    rw [this]
    simp
  · rw [if_neg e]
    have : ([(k, b, y)] : List QE).find? (fun x => decide (x.1 = j)) = none := by simp [Ne.symm e]
    rw [this]
    simp
/-! ### the rules -/
def tQNew (P : Program) (w : World) : TE := fun _ H Q => ∀ p, H p = none → Q (.ref p) (upd H p (QO P w p []))
def tQGet (P : Program) (w : World) (td ty : TE) : TE := fun σ H Q => td σ H fun x H1 => ty σ H1 fun y H2 => ∃ (a b : Addr) (kvs : List QE) (k : List Leaf) (v : V), x = .ref a ∧ H2 a = some (QO P w a kvs) ∧ KeysAt H2 kvs ∧ y = .ref b ∧ KeyAt H2 b k ∧ valQ kvs k = some v ∧ Q v H2
def tQIn (P : Program) (w : World) (ty td : TE) : TE := fun σ H Q => ty σ H fun y H1 => td σ H1 fun x H2 => ∃ (a b : Addr) (kvs : List QE) (k : List Leaf), x = .ref a ∧ H2 a = some (QO P w a kvs) ∧ KeysAt H2 kvs ∧ y = .ref b ∧ KeyAt H2 b k ∧ Q (.bl (valQ kvs k).isSome) H2
def tQNotIn (P : Program) (w : World) (ty td : TE) : TE := fun σ H Q => ty σ H fun y H1 => td σ H1 fun x H2 => ∃ (a b : Addr) (kvs : List QE) (k : List Leaf), x = .ref a ∧ H2 a = some (QO P w a kvs) ∧ KeysAt H2 kvs ∧ y = .ref b ∧ KeyAt H2 b k ∧ Q (.bl (!(valQ kvs k).isSome)) H2
/-- a new key is laid -/
def sQPut (P : Program) (w : World) (td ty tv : TE) : TS := fun D σ H => tv σ H fun v H1 => td σ H1 fun x H2 => ty σ H2 fun y H3 => ∃ (a b : Addr) (kvs : List QE) (k : List Leaf), x = .ref a ∧ H3 a = some (QO P w a kvs) ∧ KeysAt H3 kvs ∧ y = .ref b ∧ KeyAt H3 b k ∧ valQ kvs k = none ∧ kvs.length < sizeLine ∧
  D.nx σ (upd H3 a (QO P w a (kvs ++ [(k, b, v)])))
section
variable {X : Cx} {o i value : Expr} {pos pos' : Pos} {td ty tv : TE}
theorem pe_qnew : PE X (.Dict [] [] pos) (tQNew X.prog X.w) := ⟨fun pins s σ H Q I h =>
  wpAny_Dict_empty ⟨.ref s.heap.objs.size, _, I.laid (a := s.heap.objs.size) (o := QO X.prog X.w s.heap.objs.size []) (t' := s.toks) (fun _ _ q => Heap.get?_push_of_some _ q) (Nat.le_refl _)
    (qo_ok ⟨Nat.zero_le _, beq_eq_false_iff_ne.mpr (Ne.symm (Nat.ne_of_lt I.big)), [], .nil, _, #[], 0, Heap.get?_push_size _ rfl, ⟨rfl, rfl, rfl⟩, rfl, rfl, List.nodup_nil⟩), rfl, h _ (I.hok.fresh (Nat.le_refl _))⟩⟩
theorem pe_qget (hu : X.A.units + 1 < cLine) (ho : PE X o td) (hi : PE X i ty) (hs : NoSl i) : PE X (.Subscript o i pos) (tQGet X.prog X.w td ty) := by
  refine ⟨fun pins s σ H Q I h => ?_⟩
  refine subD_of PySem.F.slot_dict_getitem.lookup hs (thn (ho.run pins s σ H _ I h) fun u s1 ⟨x, H1, I1, rx, q1⟩ => thn (hi.run pins s1 σ H1 _ I1 q1) fun iv s2 ⟨y, H2, I2, ry, a, b, kvs, k, v, ex, ha, ke, ey, hb, hv, q2⟩ => ?_)
  subst ex ey
  obtain rfl : u = Value.ref a := rx
  obtain rfl : iv = Value.ref b := ry
  obtain ⟨z, hd, xs, rel, dd⟩ := q_of I2.hok ha ke
  refine ⟨dd.typeIs, ?_⟩
  obtain ⟨w', hw, rw'⟩ := RelO.some_of (v := v) (o := (atKey xs k).map (·.2)) (by rw [← hv]; exact rel.val k)
  obtain ⟨p, hp, hp2⟩ := Option.map_eq_some_iff.mp hw
  refine wpAny_getItem_heap (tupleKind_room_in1 hu) (key_ofQ I2.hok hb) dd hp ?_
  rw [hp2]
  exact ⟨v, H2, I2.tok _, rw', q2⟩
theorem pc_qin (hu : X.A.units + 1 < cLine) (hi : PE X i ty) (ho : PE X o td) : PC X .In i o (tQIn X.prog X.w ty td) := by
  refine ⟨fun pins s σ H Q I h => ?_⟩
  refine thn (hi.run pins s σ H _ I h) fun iv s1 ⟨y, H1, I1, ry, q1⟩ => thn (ho.run pins s1 σ H1 _ I1 q1) fun u s2 ⟨x, H2, I2, rx, a, b, kvs, k, ex, ha, ke, ey, hb, q2⟩ => ?_
  subst ex ey
  obtain rfl : u = Value.ref a := rx
  obtain rfl : iv = Value.ref b := ry
  obtain ⟨z, hd, xs, rel, dd⟩ := q_of I2.hok ha ke
  refine wpAny_in_heap (tupleKind_room_in1 hu) (key_ofQ I2.hok hb) hd dd ?_
  have q := (rel.val k).isSome_eq
  rw [Option.isSome_map] at q
  rw [← q]
  exact ⟨.bl _, H2, I2.tok _, rfl, q2⟩
theorem pc_qnotin (hu : X.A.units + 1 < cLine) (hi : PE X i ty) (ho : PE X o td) : PC X .NotIn i o (tQNotIn X.prog X.w ty td) := by
  refine ⟨fun pins s σ H Q I h => ?_⟩
  refine thn (hi.run pins s σ H _ I h) fun iv s1 ⟨y, H1, I1, ry, q1⟩ => thn (ho.run pins s1 σ H1 _ I1 q1) fun u s2 ⟨x, H2, I2, rx, a, b, kvs, k, ex, ha, ke, ey, hb, q2⟩ => ?_
  subst ex ey
  obtain rfl : u = Value.ref a := rx
  obtain rfl : iv = Value.ref b := ry
  obtain ⟨z, hd, xs, rel, dd⟩ := q_of I2.hok ha ke
  refine wpAny_notIn_heap (tupleKind_room_in1 hu) (key_ofQ I2.hok hb) hd dd ?_
  have q := (rel.val k).isSome_eq
  rw [Option.isSome_map] at q
  rw [← q]
  exact ⟨.bl _, H2, I2.tok _, rfl, q2⟩
theorem ps_qput (hu : X.A.units + 1 < cLine) (ho : PE X o td) (hi : PE X i ty) (hv : PE X value tv) (hs : swapsWith value (some (.Subscript o i pos')) pos.line X.env = pure false) :
    PS X (.Assign [.Subscript o i pos'] value pos) (sQPut X.prog X.w td ty tv) := by
  refine ⟨fun pins s σ H D I h => ?_⟩
  refine wpAny_Assign_Subscript (thn (hv.run pins s σ H _ I h) fun r s1 ⟨v, H1, I1, rv, q1⟩ => thn (ho.run pins s1 σ H1 _ I1 q1) fun u s2 ⟨x, H2, I2, rx, q2⟩ => thn (hi.run pins s2 σ H2 _ I2 q2) fun iv s3 ⟨y, H3, I3, ry, a, b, kvs, k, ex, ha, ke, ey, hb, hn, hl, q3⟩ => ?_) hs
  subst ex ey
  obtain rfl : u = Value.ref a := rx
  obtain rfl : iv = Value.ref b := ry
  obtain ⟨z, hd, xs, rel, dd⟩ := q_of I3.hok ha ke
  have hz : xs.length ≤ sizeLine := by rw [← Paired.length rel]; exact z
  refine wpAny_setItem_heap (hsz := hz) (tupleKind_room_in1 hu) (key_ofQ I3.hok hb) dd fun h' dd' hs => ⟨σ, _, ?_, q3⟩
  rw [storedH_new (qnone rel hn)] at dd'
  obtain ⟨q, es, ep, hq, h2, h3, h4, _, h5⟩ := dd'
  refine d_write I3 (by rw [ha]; exact True.intro) hs ⟨q, hq⟩ (qo_ok ⟨?_, hd, _, rel.snoc rv, q, es, ep, hq, h2, h3, h4, h5⟩)
  rw [List.length_append]
  exact hl
end
section
variable {X : Cx}
theorem call_lenQ : CallR X (.builtin "len") (fun xs H Q => ∃ (a : Addr) (kvs : List QE), xs = [V.ref a] ∧ H a = some (QO X.prog X.w a kvs) ∧ KeysAt H kvs ∧ Q (.int ((kvs.length : Nat) : Int)) H) := by
  intro pins s σ H xs us Q I r h
  obtain ⟨p, kvs, rfl, hp, ke, q⟩ := h
  obtain ⟨u, rfl, rx⟩ := vals1 r
  obtain rfl : u = .ref p := rx
  obtain ⟨z, hd, ys, rel, dd⟩ := q_of I.hok hp ke
  have hl : kvs.length = ys.length := Paired.length rel
  refine call_len_dictH hd dd (by rw [← hl]; rw [sizeLine_eq] at z; omega) ?_
  rw [← hl]
  exact ⟨.int ((kvs.length : Nat) : Int), H, I.tok _, ⟨_, rfl⟩, q⟩
theorem qaddrs {kvs : List QE} {xs : List (List Leaf × Addr × Value)} (r : QP kvs xs) : kvs.map (fun p => p.2.1) = xs.map fun x => x.2.1 := by
  induction r with
  | nil => rfl
  | cons h t ih => rw [List.map_cons, List.map_cons, ih, h.2.1]
theorem call_list_Q (hc : X.calm = true) : CallR X (.type "list") (fun xs H Q => ∃ (d : Addr) (kvs : List QE), xs = [V.ref d] ∧ H d = some (QO X.prog X.w d kvs) ∧ KeysAt H kvs ∧ ∀ p, H p = none → Q (.ref p) (upd H p (.lst (kvs.map fun e => V.ref e.2.1)))) := by
  intro pins s σ H xs us Q I r h
  obtain ⟨d, kvs, rfl, hd, ke, q⟩ := h
  obtain ⟨u, rfl, rx⟩ := r.one
  cases rx
  obtain ⟨z, hs, ks, pr, o, es, ep, ho, hx, hdt, he, _, hn⟩ := q_of I.hok hd ke
  have l1 : es.size = ks.length := size_of_entries he
  have l2 : kvs.length = ks.length := Paired.length pr
  refine PySem.W.kdl_call (kdl_raw hs hx hdt) (I.ok.hd hc) ho (by omega) fun h' tk acc' c' kp e it => ?_
  have ea : acc'.toList = ks.map fun x => Value.ref x.2.1 := by
    have hl : acc'.toList.length = ks.length := by rw [Array.length_toList, it.1]; exact l1
    apply List.ext_getElem?
    intro j
    rw [List.getElem?_map]
    cases hj : acc'.toList[j]? with
    | none =>
      have h1 := List.getElem?_eq_none_iff.mp hj
      rw [List.getElem?_eq_none (by omega)]
      all_goals rfl
    | some v =>
      obtain ⟨en, hen, hv⟩ := it.2 j v (by rw [← Array.getElem?_toList]; exact hj)
      have qe := entry_at he j
      rw [hen] at qe
      cases hb : ks[j]? with
      | none =>
        rw [hb] at qe
        exact nomatch (show some en = none from qe)
      | some b =>
        rw [hb] at qe
        have e2 : en = entryOfKey (tupleKind (leafKind X.prog X.w)) b := Option.some.inj qe
        rw [hv, e2]
        all_goals rfl
  have eb : acc'.toList = (kvs.map fun e => e.2.1).map Value.ref := by rw [ea, qaddrs pr, List.map_map]; all_goals rfl
  have ev : (kvs.map fun e => V.ref e.2.1) = (kvs.map fun e => e.2.1).map V.ref := by rw [List.map_map]; rfl
  have rv : Vals (kvs.map fun e => V.ref e.2.1) acc'.toList := by rw [eb, ev]; exact vals_refs _
  have hz : (kvs.map fun e => V.ref e.2.1).length ≤ sizeLine := by rw [List.length_map]; omega
  refine ⟨.ref s.heap.objs.size, _, I.laid (t' := tk) (o := .lst (kvs.map fun e => V.ref e.2.1)) kp (Nat.le_refl _) ?_, rfl, q _ (I.hok.fresh (Nat.le_refl _))⟩
  exact ⟨hz, acc'.toList, c', rv, by rw [Array.toArray_toList]; exact e⟩
end
/-! ### setdefault, keys that are tuples -/
section
variable {X : Cx} {pins : List (Addr × Obj)} {σ : L2.St} {H : Hp} {s : Shared} {a b : Addr} {r : Value} {d : V} {k : List Key} {A : Around} {E : Value → Shared → Prop}
theorem d_setdT {kvs : List (List Key × V)} {Q : Value → Shared → Prop} (hu : A.units + 1 < cLine) (I : Inv X pins σ H s) (e : H a = some (.dT kvs)) (eb : H b = some (.tup (k.map kV))) (rd : RelV d r) (hl : kvs.length < sizeLine)
    (h1 : ∀ v, valV kvs k = some v → ∀ (w' : Value) (s' : Shared), Inv X pins σ H s' → RelV v w' → Q w' s') (h2 : valV kvs k = none → ∀ (w' : Value) (s' : Shared), Inv X pins σ (upd H a (.dT (putK kvs k d))) s' → RelV d w' → Q w' s') :
    wpAny (model X.prog X.w) A (call (.builtin "dict.setdefault") [.ref a, .ref b, r]) Q E s := by
  obtain ⟨z, hd, xs, rel, dd⟩ := dt_of I.hok e
  have hz : xs.length ≤ sizeLine := by rw [← Paired.length rel]; exact z
  refine call_setdefault_heap (hsz := hz) (tupleKind_room_in1 hu) (key_of I.hok eb) hd dd (fun p hp => ?_) fun hn h' dd' hs => ?_
  · have q := rel.val k
    rw [hp] at q
    cases q0 : valV kvs k with
    | none =>
      rw [q0] at q
      exact (show False from q).elim
    | some v0 =>
      rw [q0] at q
      exact h1 v0 q0 _ _ (I.tok _) q
  · have q := rel.val k
    rw [hn] at q
    cases q0 : valV kvs k with
    | some v0 =>
      rw [q0] at q
      exact (show False from q).elim
    | none =>
      have hl2 : (putK kvs k d).length ≤ sizeLine := by have := length_putK kvs k d; omega
      obtain ⟨q, es, ep, hq, g2, g3, g4, _, g5⟩ := dd'
      refine h2 q0 _ _ (d_write I (by rw [e]; exact True.intro) hs ⟨q, hq⟩ ⟨hl2, hd, _, (rel.put k eb rd).keeps fun c ys ec => ?_, q, es, ep, hq, g2, g3, g4, g5⟩) rd
      rw [upd_ne (ne_of ec e (fun z => nomatch z))]
      exact ec
end
def tTSetd (td ty tx : TE) : TE := fun σ H Q => td σ H fun x H1 => ∃ a, x = .ref a ∧ IsD H1 a ∧ ty σ H1 fun y H2 => tx σ H2 fun z H3 => ∃ (b : Addr) (kvs : List (List Key × V)) (k : List Key), H3 a = some (.dT kvs) ∧ y = .ref b ∧ H3 b = some (.tup (k.map kV)) ∧ kvs.length < sizeLine ∧
  (∀ v, valV kvs k = some v → Q v H3) ∧ (valV kvs k = none → Q z (upd H3 a (.dT (putK kvs k z))))
theorem pe_tsetd {X : Cx} {o e f : Expr} {td ty tx : TE} {apos cpos : Pos} (hu : X.A.units + 1 < cLine) (ho : PE X o td) (he : PE X e ty) (hf : PE X f tx) (m : M2 X o "setdefault" apos e f cpos) : PE X (.Call (.Attribute o "setdefault" apos) [e, f] [] cpos) (tTSetd td ty tx) := by
  refine ⟨fun pins s σ H Q I h => ?_⟩
  refine wpAny_Call_method m.base m.few m.line PySem.F.plainAttrs_dict PySem.F.slot_dict_setdefault PySem.F.type_dict_setdefault (thn (ho.run pins s σ H _ I h) fun u s1 ⟨x, H1, I1, rx, a, ex, d, q1⟩ => ?_)
  subst ex
  obtain rfl : u = Value.ref a := rx
  obtain ⟨t1, t2, _⟩ := isD_at I1 d
  refine ⟨t1, t2, ?_⟩
  rw [m.trees]
  refine Calls.callWith_builtin rfl (Calls.evalArgs_plain (Calls.spliced_cons (thn (he.run pins s1 σ H1 _ I1 q1) fun iv s2 ⟨y, H2, I2, ry, q2⟩ =>
    Calls.spliced_cons (thn (hf.run pins s2 σ H2 _ I2 q2) fun fv s3 ⟨z, H3, I3, rz, b, kvs, k, ea, ey, eb, hl, q3, q4⟩ => Calls.spliced_nil ?_))))
  subst ey
  obtain rfl : iv = Value.ref b := ry
  exact d_setdT hu I3 ea eb rz hl (fun v hv w' s4 I4 rw' => ⟨v, _, I4, rw', q3 v hv⟩) fun hn w' s4 I4 rw' => ⟨z, _, I4, rw', q4 hn⟩
end Pr
/-! The programs as data, their points, what follows a situation: plain Lean. -/
namespace Pr
open PySem
inductive Vr where
  | g (i : Nat) | l (i : Nat)
  deriving DecidableEq
inductive Ex where
  | tr (b : Bool) | of (v : Vr) | no (a : Ex) | an (a b : Ex) | oo (a b : Ex) | sm (a b : Ex)
inductive Sm where
  | set (v : Vr) (e : Ex) | free (v : Vr) | call (p : Nat) | ite (e : Ex) (a b : List Sm) | ei (a b : List Sm) | wh (e : Ex) (b : List Sm) | rp (b : List Sm) | ret | pass (n : Nat)
structure Prog where
  gc : Nat
  procs : List (Nat × List Sm)

/-! ### as Python has them -/
def Vr.d : Vr → PyData
  | .g i => .tuple [.str "global", .int i]
  | .l i => .tuple [.str "local", .int i]
def Ex.d : Ex → PyData
  | .tr b => .tuple [.str "truth", .bool b]
  | .of v => .tuple [.str "of", v.d]
  | .no a => .tuple [.str "not", a.d]
  | .an a b => .tuple [.str "and", a.d, b.d]
  | .oo a b => .tuple [.str "or", a.d, b.d]
  | .sm a b => .tuple [.str "same", a.d, b.d]
mutual
def Sm.d : Sm → PyData
  | .set v e => .tuple [.str "set", v.d, e.d]
  | .free v => .tuple [.str "free", v.d]
  | .call p => .tuple [.str "call", .int p]
  | .ite e a b => .tuple [.str "if", e.d, .tuple (bdD a), .tuple (bdD b)]
  | .ei a b => .tuple [.str "either", .tuple (bdD a), .tuple (bdD b)]
  | .wh e b => .tuple [.str "while", e.d, .tuple (bdD b)]
  | .rp b => .tuple [.str "repeat", .tuple (bdD b)]
  | .ret => .tuple [.str "return"]
  | .pass n => .tuple [.str "pass", .int n]
def bdD : List Sm → List PyData
  | [] => []
  | s :: r => s.d :: bdD r
end
theorem bdD_map : ∀ b : List Sm, bdD b = b.map Sm.d
  | [] => rfl
  | s :: r => by rw [bdD, bdD_map r, List.map_cons]
theorem bdD_len (b : List Sm) : (bdD b).length = b.length := by rw [bdD_map, List.length_map]
def procD (p : Nat × List Sm) : PyData := .tuple [.int p.1, .tuple (bdD p.2)]

/-! ### sizes, depths, what is well formed -/
mutual
def Sm.size : Sm → Nat
  | .ite _ a b => 1 + (bdS a + bdS b)
  | .ei a b => 1 + (bdS a + bdS b)
  | .wh _ b => 1 + bdS b
  | .rp b => 1 + bdS b
  | _ => 1
def bdS : List Sm → Nat
  | [] => 0
  | s :: r => s.size + bdS r
end
theorem Sm.size_pos (s : Sm) : 1 ≤ s.size := by cases s <;> simp [Sm.size] <;> omega
theorem bdS_snoc (b : List Sm) (s : Sm) : bdS (b ++ [s]) = bdS b + s.size := by
  induction b with
  | nil => simp [bdS]
  | cons a r ih => simp only [List.cons_append, bdS, ih]; omega
theorem len_bdS (b : List Sm) : b.length ≤ bdS b := by
  induction b with
  | nil => simp
  | cons a r ih => simp only [List.length_cons, bdS]; have := a.size_pos; omega
def Ex.deep : Ex → Nat
  | .tr _ => 0
  | .of _ => 0
  | .no a => a.deep + 1
  | .an a b => max a.deep b.deep + 1
  | .oo a b => max a.deep b.deep + 1
  | .sm a b => max a.deep b.deep + 1
mutual
def Sm.deep : Sm → Nat
  | .ite _ a b => max (bdP a) (bdP b) + 1
  | .ei a b => max (bdP a) (bdP b) + 1
  | .wh _ b => bdP b + 1
  | .rp b => bdP b + 1
  | _ => 0
def bdP : List Sm → Nat
  | [] => 0
  | s :: r => max s.deep (bdP r)
end
def Vr.ok (gc lc : Nat) : Vr → Prop
  | .g i => i < gc
  | .l i => i < lc
def Ex.ok (gc lc : Nat) : Ex → Prop
  | .tr _ => True
  | .of v => v.ok gc lc
  | .no a => a.ok gc lc
  | .an a b => a.ok gc lc ∧ b.ok gc lc
  | .oo a b => a.ok gc lc ∧ b.ok gc lc
  | .sm a b => a.ok gc lc ∧ b.ok gc lc
mutual
/-- the parts exist; expressions are at most two deep -/
def Sm.ok (gc lc np : Nat) : Sm → Prop
  | .set v e => v.ok gc lc ∧ e.ok gc lc ∧ e.deep ≤ 2
  | .free v => v.ok gc lc
  | .call p => p < np
  | .ite e a b => (e.ok gc lc ∧ e.deep ≤ 2) ∧ bdOk gc lc np a ∧ bdOk gc lc np b
  | .ei a b => bdOk gc lc np a ∧ bdOk gc lc np b
  | .wh e b => (e.ok gc lc ∧ e.deep ≤ 2) ∧ bdOk gc lc np b
  | .rp b => bdOk gc lc np b
  | .ret => True
  | .pass n => n ≤ 999
def bdOk (gc lc np : Nat) : List Sm → Prop
  | [] => True
  | s :: r => s.ok gc lc np ∧ bdOk gc lc np r
end
theorem bdOk_mem {gc lc np : Nat} : ∀ {b : List Sm}, bdOk gc lc np b ↔ ∀ s ∈ b, s.ok gc lc np
  | [] => by simp [bdOk]
  | s :: r => by simp [bdOk, bdOk_mem (b := r)]
theorem bdP_mem : ∀ {b : List Sm} {n : Nat}, bdP b ≤ n ↔ ∀ s ∈ b, s.deep ≤ n
  | [], n => by simp [bdP]
  | s :: r, n => by simp [bdP, Nat.max_le, bdP_mem (b := r)]
structure Prog.Ok (P : Prog) : Prop where
  gc : P.gc ≤ 2
  n1 : 1 ≤ P.procs.length
  n2 : P.procs.length ≤ 2
  lc : ∀ p ∈ P.procs, p.1 ≤ 1
  ok : ∀ p ∈ P.procs, bdOk P.gc p.1 P.procs.length p.2
  deep : ∀ p ∈ P.procs, bdP p.2 ≤ 3
  size : (P.procs.map fun p => bdS p.2).sum ≤ 8

/-! ### the points -/
structure Pt where
  proc : Nat
  stm : Option Sm
  fol : Option Nat
  ent : List Nat
def ent (place back : Nat) : List Sm → Nat
  | [] => back
  | _ :: _ => place
mutual
def ptS (proc place fol : Nat) : Sm → List Pt
  | .ite e a b => ⟨proc, some (.ite e a b), some fol, [ent (place + 1) fol a, ent (place + 1 + bdS a) fol b]⟩ :: (ptB proc (place + 1) fol a ++ ptB proc (place + 1 + bdS a) fol b)
  | .ei a b => ⟨proc, some (.ei a b), some fol, [ent (place + 1) fol a, ent (place + 1 + bdS a) fol b]⟩ :: (ptB proc (place + 1) fol a ++ ptB proc (place + 1 + bdS a) fol b)
  | .wh e b => ⟨proc, some (.wh e b), some fol, [ent (place + 1) place b]⟩ :: ptB proc (place + 1) place b
  | .rp b => ⟨proc, some (.rp b), some fol, [ent (place + 1) place b]⟩ :: ptB proc (place + 1) place b
  | .set v e => [⟨proc, some (.set v e), some fol, []⟩]
  | .free v => [⟨proc, some (.free v), some fol, []⟩]
  | .call p => [⟨proc, some (.call p), some fol, []⟩]
  | .ret => [⟨proc, some .ret, some fol, []⟩]
  | .pass n => [⟨proc, some (.pass n), some fol, []⟩]
def ptB (proc place behind : Nat) : List Sm → List Pt
  | [] => []
  | s :: r => ptS proc place (ent (place + s.size) behind r) s ++ ptB proc (place + s.size) behind r
end
def ptP : Nat → Nat → List (Nat × List Sm) → List Pt
  | _, _, [] => []
  | k, pl, p :: r => ptB k pl (pl + bdS p.2) p.2 ++ (⟨k, none, none, []⟩ :: ptP (k + 1) (pl + bdS p.2 + 1) r)
def begs : Nat → List (Nat × List Sm) → List Nat
  | _, [] => []
  | pl, p :: r => pl :: begs (pl + bdS p.2 + 1) r
def Prog.pts (P : Prog) : List Pt := ptP 0 0 P.procs
def Prog.begs (P : Prog) : List Nat := Pr.begs 0 P.procs
mutual
theorem ptS_len (proc place fol : Nat) : ∀ s : Sm, (ptS proc place fol s).length = s.size
  | .ite e a b => by simp only [ptS, List.length_cons, List.length_append, ptB_len, Sm.size]; omega
  | .ei a b => by simp only [ptS, List.length_cons, List.length_append, ptB_len, Sm.size]; omega
  | .wh e b => by simp only [ptS, List.length_cons, ptB_len, Sm.size]; omega
  | .rp b => by simp only [ptS, List.length_cons, ptB_len, Sm.size]; omega
  | .set v e => rfl
  | .free v => rfl
  | .call p => rfl
  | .ret => rfl
  | .pass n => rfl
theorem ptB_len (proc place behind : Nat) : ∀ b : List Sm, (ptB proc place behind b).length = bdS b
  | [] => rfl
  | s :: r => by simp only [ptB, List.length_append, ptS_len, ptB_len, bdS]
end
theorem ptP_len : ∀ (k pl : Nat) (ps : List (Nat × List Sm)), (ptP k pl ps).length = (ps.map fun p => bdS p.2).sum + ps.length
  | _, _, [] => rfl
  | k, pl, p :: r => by
    simp only [ptP, List.length_append, List.length_cons, ptB_len, ptP_len, List.map_cons, List.sum_cons]
    omega
theorem begs_len : ∀ (pl : Nat) (ps : List (Nat × List Sm)), (Pr.begs pl ps).length = ps.length
  | _, [] => rfl
  | pl, p :: r => by simp [begs, begs_len]

/-! ### situations -/
abbrev Fr := Nat × List Bool
abbrev Sit := List Bool × List Fr
def boolsD (bs : List Bool) : PyData := .tuple (bs.map .bool)
def frD (f : Fr) : PyData := .tuple [.int f.1, boolsD f.2]
def sitD (s : Sit) : PyData := .tuple [boolsD s.1, .tuple (s.2.map frD)]
def Vr.val (g l : List Bool) : Vr → Bool
  | .g i => g.getD i false
  | .l i => l.getD i false
def Ex.val (g l : List Bool) : Ex → Bool
  | .tr b => b
  | .of v => v.val g l
  | .no a => !a.val g l
  | .an a b => a.val g l && b.val g l
  | .oo a b => a.val g l || b.val g l
  | .sm a b => a.val g l == b.val g l
def Vr.set (g l : List Bool) (b : Bool) : Vr → List Bool × List Bool
  | .g i => (g.set i b, l)
  | .l i => (g, l.set i b)
def falses (n : Nat) : List Bool := List.replicate n false
def Prog.lc (P : Prog) (k : Nat) : Nat := ((P.procs[k]?).map (·.1)).getD 0
def Prog.entry (P : Prog) (k : Nat) : Fr := (P.begs.getD k 0, falses (P.lc k))
def Pt.follow (p : Pt) : Nat := p.fol.getD 0
def Pt.en (p : Pt) (i : Nat) : Nat := p.ent.getD i 0
/-- a statement that neither calls nor leaves: (point, globals, locals) -/
def goals (p : Pt) (g l : List Bool) : Sm → List (Nat × List Bool × List Bool)
  | .set v e => [(p.follow, v.set g l (e.val g l))]
  | .free v => [(p.follow, v.set g l false), (p.follow, v.set g l true)]
  | .ite e _ _ => [(p.en (if e.val g l then 0 else 1), g, l)]
  | .ei _ _ => [(p.en 0, g, l), (p.en 1, g, l)]
  | .wh e _ => [(if e.val g l then p.en 0 else p.follow, g, l)]
  | .rp _ => [(p.en 0, g, l), (p.follow, g, l)]
  | .pass _ => [(p.follow, g, l)]
  | .call _ => []
  | .ret => []
def aftP (P : Prog) (p : Pt) (g l : List Bool) : List (List Bool × List Fr) :=
  match p.stm with
  | none => [(g, [])]
  | some .ret => [(g, [])]
  | some (.call q) => [(g, [P.entry q, (p.follow, l)])]
  | some s => (goals p g l s).map fun x => (x.2.1, [(x.1, x.2.2)])
def aft (P : Prog) (g : List Bool) (f : Fr) : List (List Bool × List Fr) :=
  match P.pts[f.1]? with
  | none => []
  | some p => aftP P p g f.2
def sucs (P : Prog) (s : Sit) : List Sit :=
  match s.2 with
  | [] => []
  | f :: r => (aft P s.1 f).map fun x => (x.1, x.2 ++ r)
def Prog.begin (P : Prog) : Sit := (falses P.gc, [P.entry 0])

/-! ### numbers for states and letters -/
def num : List Bool → Nat
  | [] => 0
  | b :: r => b.toNat + 2 * num r
def vals (n : Nat) : Nat → List Bool
  | 0 => []
  | c + 1 => (n % 2 == 1) :: vals (n / 2) c
theorem vals_len : ∀ (c n : Nat), (vals n c).length = c
  | 0, _ => rfl
  | c + 1, n => by simp [vals, vals_len c]
theorem vals_num : ∀ bs : List Bool, vals (num bs) bs.length = bs
  | [] => rfl
  | b :: r => by
    have h1 : (num (b :: r)) % 2 = b.toNat := by cases b <;> simp [num] <;> omega
    have h2 : (num (b :: r)) / 2 = num r := by cases b <;> simp [num] <;> omega
    show ((num (b :: r)) % 2 == 1) :: vals (num (b :: r) / 2) r.length = b :: r
    rw [h1, h2, vals_num r]
    cases b <;> rfl
theorem num_lt : ∀ bs : List Bool, num bs < 2 ^ bs.length
  | [] => by simp [num]
  | b :: r => by
    have := num_lt r
    have h : (2 : Nat) ^ (b :: r).length = 2 * 2 ^ r.length := by rw [List.length_cons, Nat.pow_succ]; omega
    rw [h]
    cases b <;> simp [num] <;> omega
theorem num_vals : ∀ (c n : Nat), n < 2 ^ c → num (vals n c) = n
  | 0, n, h => by simp at h; simp [vals, num, h]
  | c + 1, n, h => by
    have h' : n / 2 < 2 ^ c := by rw [Nat.pow_succ] at h; omega
    have ih := num_vals c (n / 2) h'
    simp only [vals, num, ih]
    have : n % 2 = 0 ∨ n % 2 = 1 := by omega
    rcases this with e | e <;> simp [e] <;> omega
/-- the frames in the letters' order, from the point at place on -/
def frs (P : Prog) : Nat → List Pt → List Fr
  | _, [] => []
  | place, p :: r => ((List.range (2 ^ P.lc p.proc)).map fun n => (place, vals n (P.lc p.proc))) ++ frs P (place + 1) r
def Prog.frames (P : Prog) : List Fr := frs P 0 P.pts
def fsts (P : Prog) : Nat → List Pt → List Nat
  | _, [] => []
  | at_, p :: r => at_ :: fsts P (at_ + 2 ^ P.lc p.proc) r
def Prog.firsts (P : Prog) : List Nat := fsts P 0 P.pts
def Prog.letter (P : Prog) (f : Fr) : Nat := P.firsts.getD f.1 0 + num f.2
/-- a step: state, letter, goal, what it lays -/
structure Stp where
  st : Nat
  lt : Nat
  go : Nat
  la : List Nat
  deriving DecidableEq
def Prog.steps1 (P : Prog) (letter : Nat) (state : Nat) : List Stp :=
  match P.frames[letter]? with
  | none => []
  | some f => (aft P (vals state P.gc) f).map fun x => ⟨state, letter, num x.1, x.2.map P.letter⟩
def Prog.mach (P : Prog) : List Stp := (List.range P.frames.length).flatMap fun l => (List.range (2 ^ P.gc)).flatMap fun s => P.steps1 l s
end Pr
namespace Pr
open PySem PySem.Spec PyProof.Rows L2
open C8 (Cal Met Mak pe_c pe_mk pe_mt pe_mt0)
section
variable {P : Program} {w : World} {K : PySem.W.Frag} {mg : Str → Option Value} {base : Heap}
/-- what a body's proof hands over: a reading of the body, and that it holds -/
abbrev BodyOk (P : Program) (w : World) (K : PySem.W.Frag) (mg : Str → Option Value) (base : Heap) (k : Nat) (N : List Str) (qual : Str) (scope : Scope) (body : List Stmt) (f : Addr) (sp : Sp) : Prop :=
  ∀ (cdv : Value) (A : Around) (outer : List PySem.Env) (s : Shared) (H : Hp) (vs : List V) (Q : VK) (E : XK), Room k (A.deeper (envOfC qual scope s.heap.objs.size f cdv)) → sp vs H Q E →
    ∃ t, PSs (cxOf C8.CX0 P w K mg base N qual scope f cdv A outer s H E).nox body t ∧ t { nx := fun _ H' => Q .non H', rt := Q } (start N vs) H
theorem fn_by {x qual : Str} {params : Arguments} {body : List Stmt} {scope : Scope} {dvs : List V} {f : Addr} {fd : FuncData} {N ps : List Str} {k : Nat} {sp : Sp} (F : FunD K x qual params body scope dvs [] f fd) (S : FnScope N ps scope)
    (len : ∀ vs H Q E, sp vs H Q E → vs.length = ps.length) (hb : BodyOk P w K mg base k N qual scope body f sp) : FnOk P w K mg base C8.CX0 (k + 1) f fd ps sp :=
  F.ok S len fun cdv A outer s H vs Q E hr h => let ⟨t, a, b⟩ := hb cdv A outer s H vs Q E hr h; ⟨t, a.nox, b⟩
theorem cal_by {x : Str} {params : Arguments} {body : List Stmt} {scope : Scope} {f : Addr} {fd : FuncData} {N ps : List Str} {k : Nat} {sp : Sp} (F : FunD K x x params body scope [] [] f fd) (hm : mg x = some (.ref f)) (b : Binds K fd ps []) (S : FnScope N ps scope)
    (len : ∀ vs H Q E, sp vs H Q E → vs.length = ps.length) (hb : BodyOk P w K mg base k N x scope body f sp) : Cal P w K mg base (k + 1) x sp [] :=
  ⟨f, fd, ps, [], fn_by F S len hb, hm, F.kp, b, .nil⟩
theorem met_by {m qual : Str} {C : Addr} {params : Arguments} {body : List Stmt} {scope : Scope} {f : Addr} {fd : FuncData} {N ps : List Str} {k : Nat} {sp : Sp} (F : FunD K m qual params body scope [] [] f fd) (c : Cls K C) (me : Meth K C m f) (b : Binds K fd ps []) (S : FnScope N ps scope)
    (len : ∀ vs H Q E, sp vs H Q E → vs.length = ps.length) (hb : BodyOk P w K mg base k N qual scope body f sp) : Met P w K mg base (k + 1) C m sp [] :=
  ⟨f, fd, ps, [], c, me, fn_by F S len hb, b, .nil⟩
theorem mak_by {x qual : Str} {C : Addr} {params : Arguments} {body : List Stmt} {scope : Scope} {dvs dws : List V} {ds : List Value} {f : Addr} {fd : FuncData} {N ps : List Str} {k : Nat} {sp : Sp} (F : FunD K "__init__" qual params body scope dws [] f fd) (M : Mk K C f) (hm : mg x = some (.ref C)) (b : Binds K fd ps ds) (d : Vals dvs ds) (S : FnScope N ps scope)
    (len : ∀ vs H Q E, sp vs H Q E → vs.length = ps.length) (hb : BodyOk P w K mg base k N qual scope body f sp) : Mak P w K mg base (k + 1) x C sp dvs :=
  ⟨f, fd, ps, ds, M, fn_by F S len hb, hm, b, d⟩
theorem Cal_mono {j k : Nat} {x : Str} {sp : Sp} {dvs : List V} (c : Cal P w K mg base j x sp dvs) (h : j ≤ k) : Cal P w K mg base k x sp dvs :=
  let ⟨f, fd, ps, ds, a, b⟩ := c.ex; ⟨f, fd, ps, ds, a.mono h, b⟩
/-- a def that no call may reach: the promise asks the impossible -/
theorem Cal_none {x : Str} {sp : Sp} {params : Arguments} {body : List Stmt} {scope : Scope} {f : Addr} {fd : FuncData} {ps : List Str} (F : FunD K x x params body scope [] [] f fd) (hm : mg x = some (.ref f)) (b : Binds K fd ps []) (no : ∀ vs H Q E, ¬ sp vs H Q E) : Cal P w K mg base 0 x sp [] :=
  ⟨f, fd, ps, [], ⟨fun vs H Q E h => absurd h (no vs H Q E), fun A outer s H args us vs Q E _ _ _ _ h => absurd h (no vs H Q E)⟩, hm, F.kp, b, .nil⟩
theorem Met_none {m qual : Str} {C : Addr} {sp : Sp} {params : Arguments} {body : List Stmt} {scope : Scope} {f : Addr} {fd : FuncData} {ps : List Str} (F : FunD K m qual params body scope [] [] f fd) (c : Cls K C) (me : Meth K C m f) (b : Binds K fd ps []) (no : ∀ vs H Q E, ¬ sp vs H Q E) : Met P w K mg base 0 C m sp [] :=
  ⟨f, fd, ps, [], c, me, ⟨fun vs H Q E h => absurd h (no vs H Q E), fun A outer s H args us vs Q E _ _ _ _ h => absurd h (no vs H Q E)⟩, b, .nil⟩
end

/-! ### heaps -/
theorem small {n : Nat} (h : n ≤ 100000) : n ≤ sizeLine := Nat.le_trans h (by decide)
theorem smallL {n : Nat} (h : n ≤ 100000) : n < sizeLine := Nat.lt_of_le_of_lt h (by decide)
theorem same_upd {H : Hp} {p : Addr} {o : HO} (h : H p = none) : Same H (upd H p o) := fun b u q => by rw [upd_ne (ne_of_none q h)]; exact q
/-- what H0 does not know may change -/
theorem _root_.L2.Same.mut {H0 H : Hp} {p : Addr} {o : HO} (e : Same H0 H) (h : H0 p = none) : Same H0 (upd H p o) := fun b u q => by rw [upd_ne (ne_of_none q h)]; exact e b u q
theorem _root_.L2.Same.new {H0 H : Hp} {p : Addr} {o : HO} (e : Same H0 H) (h : H p = none) : Same H0 (upd H p o) := e.trans (same_upd h)
/-- all but the objects of S stand -/
def SameB (S : Addr → Prop) (H H' : Hp) : Prop := ∀ b o, H b = some o → ¬ S b → H' b = some o
theorem _root_.L2.Same.b {S : Addr → Prop} {H H' : Hp} (e : Same H H') : SameB S H H' := fun b o h _ => e b o h
theorem SameB.trans {S : Addr → Prop} {H H1 H2 : Hp} (a : SameB S H H1) (b : SameB S H1 H2) : SameB S H H2 := fun c o h n => b c o (a c o h n) n
theorem SameB.mono {S S' : Addr → Prop} {H H' : Hp} (a : SameB S H H') (h : ∀ x, S x → S' x) : SameB S' H H' := fun c o e n => a c o e fun z => n (h c z)
theorem SameB.upd {S : Addr → Prop} {H0 H : Hp} {p : Addr} {o : HO} (e : SameB S H0 H) (h : S p) : SameB S H0 (upd H p o) := fun b u q n => by
  rw [upd_ne (fun z => n (by rw [z]; exact h))]
  exact e b u q n
theorem SameB.none {S : Addr → Prop} {H0 H : Hp} {p : Addr} {o : HO} (e : SameB S H0 H) (h : H0 p = none) : SameB S H0 (L2.upd H p o) := fun b u q n => by
  rw [upd_ne (ne_of_none q h)]
  exact e b u q n
/-- tuples stay tuples -/
def Tups (H H' : Hp) : Prop := ∀ b xs, H b = some (.tup xs) → H' b = some (.tup xs)
theorem _root_.L2.Same.tups {H H' : Hp} (e : Same H H') : Tups H H' := fun b xs h => e b _ h
theorem Tups.refl (H : Hp) : Tups H H := fun _ _ h => h
theorem Tups.trans {H H1 H2 : Hp} (a : Tups H H1) (b : Tups H1 H2) : Tups H H2 := fun c xs h => b c xs (a c xs h)

theorem ans_or2 {σ : L2.St} {H : Hp} {t u : TT} {b1 b2 : Bool} (h1 : Ans t σ H b1) (h2 : Ans u σ H b2) : Ans (tOr t u) σ H (b1 || b2) := by
  cases b1 with
  | true => exact ans_or1 h1
  | false => exact ans_or h1 h2
theorem if_or {σ : L2.St} {H : Hp} {t u : TT} {b1 b2 : Bool} {A B : TS} {D : Ends} (h1 : Ans t σ H b1) (h2 : Ans u σ H b2) (q : if (b1 || b2) = true then A D σ H else B D σ H) : tIfS (tOr t u) A B D σ H := ans_or2 h1 h2 _ q
theorem if_and {σ : L2.St} {H : Hp} {t u : TT} {b1 b2 : Bool} {A B : TS} {D : Ends} (h1 : Ans t σ H b1) (h2 : Ans u σ H b2) (q : if (b1 && b2) = true then A D σ H else B D σ H) : tIfS (tAnd t u) A B D σ H := ans_and2 h1 h2 _ q

/-! ### data that never changes: tuples of tuples, numbers, truth values, texts -/
mutual
def Rp (H : Hp) : PyData → V → Prop
  | .none, v => v = .non
  | .bool b, v => v = .bl b
  | .int i, v => v = .int i
  | .str s, v => v = .str s
  | .tuple ds, v => ∃ a xs, v = .ref a ∧ H a = some (.tup xs) ∧ RpAll H ds xs
  | .list _, _ => False
  | .dict _, _ => False
def RpAll (H : Hp) : List PyData → List V → Prop
  | [], vs => vs = []
  | d :: ds, vs => ∃ v r, vs = v :: r ∧ Rp H d v ∧ RpAll H ds r
end
mutual
theorem Rp.at {H H' : Hp} (t : Tups H H') : ∀ (d : PyData) (v : V), Rp H d v → Rp H' d v
  | .none, v, h => h
  | .bool b, v, h => h
  | .int i, v, h => h
  | .str s, v, h => h
  | .tuple ds, v, h => by
    obtain ⟨a, xs, e, ha, hx⟩ := h
    exact ⟨a, xs, e, t a xs ha, RpAll.at t ds xs hx⟩
  | .list _, v, h => h
  | .dict _, v, h => h
theorem RpAll.at {H H' : Hp} (t : Tups H H') : ∀ (ds : List PyData) (vs : List V), RpAll H ds vs → RpAll H' ds vs
  | [], vs, h => h
  | d :: ds, vs, h => by
    obtain ⟨v, r, e, h1, h2⟩ := h
    exact ⟨v, r, e, Rp.at t d v h1, RpAll.at t ds r h2⟩
end
mutual
theorem Rp.dp {K : PySem.W.Frag} {H : Hp} : ∀ (d : PyData) (v : V), Rp H d v → Dp K H v d
  | .none, v, h => by cases (show v = .non from h); exact .non
  | .bool b, v, h => by cases (show v = .bl b from h); exact .bl b
  | .int i, v, h => by cases (show v = .int i from h); exact .int i
  | .str s, v, h => by cases (show v = .str s from h); exact .str s
  | .tuple ds, v, h => by
    obtain ⟨a, xs, e, ha, hx⟩ := h
    rw [e]
    exact .tup (SqT.of ha) (RpAll.dp ds xs hx)
  | .list _, v, h => h.elim
  | .dict _, v, h => h.elim
theorem RpAll.dp {K : PySem.W.Frag} {H : Hp} : ∀ (ds : List PyData) (vs : List V), RpAll H ds vs → DpAll K H vs ds
  | [], vs, h => by cases (show vs = [] from h); exact .nil
  | d :: ds, vs, h => by
    obtain ⟨v, r, e, h1, h2⟩ := h
    rw [e]
    exact .cons (Rp.dp d v h1) (RpAll.dp ds r h2)
end
theorem RpAll.len {H : Hp} : ∀ {ds : List PyData} {vs : List V}, RpAll H ds vs → vs.length = ds.length
  | [], vs, h => by cases (show vs = [] from h); rfl
  | d :: ds, vs, h => by
    obtain ⟨v, r, e, _, h2⟩ := h
    rw [e, List.length_cons, List.length_cons, RpAll.len h2]
theorem RpAll.get {H : Hp} : ∀ {ds : List PyData} {vs : List V} {i : Nat} {d : PyData}, RpAll H ds vs → ds[i]? = some d → ∃ v, vs[i]? = some v ∧ Rp H d v
  | [], vs, i, d, _, e => by simp at e
  | d :: ds, vs, 0, d', h, e => by
    obtain ⟨v, r, rfl, h1, h2⟩ := h
    simp at e
    subst e
    exact ⟨v, rfl, h1⟩
  | d :: ds, vs, i + 1, d', h, e => by
    obtain ⟨v, r, rfl, h1, h2⟩ := h
    obtain ⟨u, e1, e2⟩ := RpAll.get (i := i) h2 (by simpa using e)
    exact ⟨u, by simpa using e1, e2⟩
theorem RpAll.getV {H : Hp} {ds : List PyData} {vs : List V} {i : Nat} {v : V} (h : RpAll H ds vs) (e : vs[i]? = some v) : ∃ d, ds[i]? = some d ∧ Rp H d v := by
  have hl := h.len
  have hi := (List.getElem?_eq_some_iff.mp e).1
  have hd : ds[i]? = some ds[i] := List.getElem?_eq_getElem (by omega)
  obtain ⟨u, e1, e2⟩ := h.get hd
  rw [e] at e1
  cases e1
  exact ⟨_, hd, e2⟩
theorem RpAll.snoc {H : Hp} : ∀ {ds : List PyData} {vs : List V} {d : PyData} {v : V}, RpAll H ds vs → Rp H d v → RpAll H (ds ++ [d]) (vs ++ [v])
  | [], vs, d, v, h, e => by
    cases (show vs = [] from h)
    exact ⟨v, [], rfl, e, rfl⟩
  | d :: ds, vs, d', v', h, e => by
    obtain ⟨v, r, rfl, h1, h2⟩ := h
    exact ⟨v, r ++ [v'], rfl, h1, RpAll.snoc h2 e⟩
theorem RpAll.app {H : Hp} : ∀ {ds es : List PyData} {vs us : List V}, RpAll H ds vs → RpAll H es us → RpAll H (ds ++ es) (vs ++ us)
  | [], es, vs, us, h, e => by
    cases (show vs = [] from h)
    exact e
  | d :: ds, es, vs, us, h, e => by
    obtain ⟨v, r, rfl, h1, h2⟩ := h
    exact ⟨v, r ++ us, rfl, h1, RpAll.app h2 e⟩
theorem RpAll.one {H : Hp} {d : PyData} {v : V} (h : Rp H d v) : RpAll H [d] [v] := ⟨v, [], rfl, h, rfl⟩
theorem RpAll.cons {H : Hp} {d : PyData} {v : V} {ds : List PyData} {vs : List V} (h : Rp H d v) (t : RpAll H ds vs) : RpAll H (d :: ds) (v :: vs) := ⟨v, vs, rfl, h, t⟩
theorem RpAll.bools {H : Hp} : ∀ bs : List Bool, RpAll H (bs.map .bool) (bs.map .bl)
  | [] => rfl
  | b :: r => ⟨.bl b, r.map .bl, rfl, rfl, RpAll.bools r⟩
theorem RpAll.boolsV {H : Hp} : ∀ {bs : List Bool} {vs : List V}, RpAll H (bs.map .bool) vs → vs = bs.map .bl
  | [], vs, h => h
  | b :: r, vs, h => by
    obtain ⟨v, r', e, h1, h2⟩ := h
    rw [e, (show v = .bl b from h1), RpAll.boolsV h2, List.map_cons]
/-- a tuple of truth values -/
theorem Rp.boolsT {H : Hp} {bs : List Bool} {v : V} : Rp H (.tuple (bs.map .bool)) v ↔ ∃ a, v = .ref a ∧ H a = some (.tup (bs.map .bl)) := by
  constructor
  · rintro ⟨a, xs, e, ha, hx⟩
    rw [RpAll.boolsV hx] at ha
    exact ⟨a, e, ha⟩
  · rintro ⟨a, e, ha⟩
    exact ⟨a, _, e, ha, RpAll.bools bs⟩
end Pr
/-! sorted of a list of tuples, its order left open -/
namespace Pr
open PySem PySem.Spec PyProof.Rows L2
theorem RpAll.dpOne {K : PySem.W.Frag} {H : Hp} : ∀ {ds : List PyData} {xs : List V}, RpAll H ds xs → ∀ {us : List Value}, Vals xs us → PySem.W.EachIs (fun (v : Value) (d : PyData) => ∃ x, Rp H d x ∧ L2.RelV x v) us ds
  | [], xs, h, us, r => by
    cases (show xs = [] from h)
    cases r
    exact .nil
  | d :: ds, xs, h, us, r => by
    obtain ⟨v, rr, rfl, h1, h2⟩ := h
    cases r with
    | cons a b => exact .cons ⟨v, h1, a⟩ (RpAll.dpOne (K := K) h2 b)
def rSortX (K : PySem.W.Frag) : List V → Hp → VK → Prop := fun vs H Q => ∃ (a : Addr) (xs : List V) (ds : List PyData), vs = [V.ref a] ∧ SqL K H a xs ∧ RpAll H ds xs ∧ PySem.W.AllAlike ds ∧ (∀ d ∈ ds, (∃ x r, d = PyData.tuple (x :: r)) ∧ d.depth ≤ 8) ∧
  ∀ (p : Addr) (ys : List V), H p = none → ys.length = xs.length → Q (.ref p) (upd H p (.lst ys))
theorem cr_sortedX {X : Cx} (hu : X.A.units + 64 < cLine) : CallR X (.builtin "sorted") (rSortX X.K) := by
  intro pins s σ H vs us Q I r h
  obtain ⟨a, xs, ds, rfl, hs, hx, hal, hd, q⟩ := h
  obtain ⟨its, rv, hl, hz⟩ := I.list hs
  obtain ⟨u, rfl, ru⟩ := vals1 r
  obtain rfl : u = Value.ref a := ru
  have e0 := RpAll.dpOne (K := X.K) hx rv
  have er : PySem.W.EachIs (fun v d => ∃ as, Reads s.heap v ((fun d : PyData => d) d) as) its ds := e0.mono fun v d ⟨x, h1, h2⟩ => Dp.reads I d x v (Rp.dp d x h1) h2
  have lenD : its.length = ds.length := e0.length
  have eR : PySem.W.EachIs (fun (v : Value) (_ : PyData) => ∃ b, v = Value.ref b) its ds := by
    have e1 := PySem.W.each_mem e0
    refine e1.mono fun v d z => ?_
    obtain ⟨⟨x, h1, h2⟩, hm⟩ := z
    obtain ⟨⟨y, rr, e⟩, _⟩ := hd d hm
    rw [e] at h1
    obtain ⟨b, _, rfl, _⟩ := h1
    exact ⟨b, h2⟩
  refine PySem.W.sorted_data (enc := fun d : PyData => d) (bs := ds) hl.isList eR er (by rw [List.map_id']; exact hal) (.inl fun d hm => ?_) (by rw [← lenD, ← rv.length]; exact hz) (fun d hm => ?_) fun out ho eo => ?_
  · rw [List.map_id'] at hm
    exact (hd d hm).1
  · have := (hd d hm).2
    show X.A.units + 2 + d.depth < cLine
    omega
  · have h3 : ∀ u ∈ out, ∃ a, u = Value.ref a := by
      have al : ∀ {l : List Value} {m : List PyData}, PySem.W.EachIs (fun (v : Value) (_ : PyData) => ∃ b, v = Value.ref b) l m → ∀ u ∈ l, ∃ a, u = Value.ref a := by
        intro l m z
        induction z with
        | nil => intro u hu; exact nomatch hu
        | cons h t ih =>
          intro u hu
          rcases List.mem_cons.mp hu with rfl | hu
          · exact h
          · exact ih u hu
      exact al eo
    obtain ⟨c, hc⟩ := sortedAll_at s.heap its out.toArray
    refine ⟨.ref (s.heap.objs.size + 1), upd H (s.heap.objs.size + 1) (.lst (out.map backV)), I.laid (t' := s.toks) (fun _ _ => sortedAll_old) (Nat.le_succ _) ⟨?_, out, c, vals_back h3, hc⟩, rfl, q _ _ (I.hok.fresh (Nat.le_succ _)) ?_⟩
    · rw [List.length_map, ho, ← lenD, ← rv.length]
      exact hz
    · rw [List.length_map, ho, ← lenD, ← rv.length]
end Pr
/-! list(d.items()), keys that are tuples -/
namespace PySem.W
open PySem PySem.Calls PyProof.Rows PyProof.V PySem.Spec
section
variable {prog : Program} {w : World} {A : Around} {E : Value → Shared → Prop} {s : Shared} {r d : Addr} {es : Array DictEntry} {ep : Nat}
theorem pr_initI {R : Result → Shared → Prop} (hh : A.handled = none) (hv : s.heap.IsItemsView r d) (hm : DT.Raw s.heap d es ep) (S : Addr) (hSr : S ≠ r) (hSd : d ≠ S) (hS : s.heap.get? S = some { cls := .type "list", data := .seq #[] })
    (hR : ∀ h' tk acc c as, (∀ b o, b ≠ S → s.heap.get? b = some o → h'.get? b = some o) → h'.get? S = some { cls := .type "list", dict := none, data := .seq acc c, slots := #[] } → as.length = es.size → DT.Made es S h' as →
      acc.toList = as.map Value.ref → R (.ok (.ret .none)) { s with heap := h', toks := tk }) (hn : es.size ≤ sizeLine) :
    wpAny (model prog w) A.in1 (Builtin.«list.__init__» ⟨[.ref S, .ref r], []⟩)
      (fun fin s' => match fin with | .done f => R (.ok f) s' | .again c' => c'.quiet = true ∧ codeAny (model prog w) A c' R s') (fun e s' => R (.error e) s') s := by
  show wpAny _ _ (do let old ← Builtin.List.listItems (.ref S); Builtin.List.listUpdate (.ref S) (fun _ => #[]); letGo old.toList.reverse; Builtin.List.listExtendWith (.ref S) (.ref r) .none) _ _ s
  refine wpAny_bind ?_
  unfold Builtin.List.listItems
  refine wpAny_bind (wpAny_seqItems hS rfl (wpAny_pure ?_))
  show wpAny _ _ (updateSeq S (fun _ => #[]) >>= fun _ => letGo (#[] : Array Value).toList.reverse >>= fun _ => Builtin.List.listExtendWith (.ref S) (.ref r) .none) _ _ s
  refine wpAny_bind (wpAny_updateSeq hS rfl ?_)
  have hS₂ := Heap.get?_update_self (Obj.mapSeq (fun _ => (#[] : Array Value))) hS rfl
  have oth : ∀ b o, b ≠ S → s.heap.get? b = some o → (s.heap.update S (Obj.mapSeq (fun _ => (#[] : Array Value)))).get? b = some o :=
    fun b o hb e => (Heap.get?_update_other _ _ (Ne.symm hb)).trans e
  refine wpAny_bind (wpAny_letGo ?_)
  refine DT.extI (es := es) (ep := ep) hh (let ⟨o, ho, x⟩ := hv; ⟨o, oth r o hSr.symm ho, x⟩) (hm.at' fun o e => oth d o hSd e) S hSr hSd .none _ hS₂ (fun h' tk acc c as hk hS' hl hG hacc => ?_) hn
  exact hR h' tk acc c as (fun b o hb e => hk b o hb (oth b o hb e)) hS' hl (hG.low (Nat.le_of_lt (Heap.lt_size hS₂))) hacc
theorem pr_listI {Q : Value → Shared → Prop} (hh : A.handled = none) (hv : s.heap.IsItemsView r d) (hm : DT.Raw s.heap d es ep) (hn : es.size ≤ sizeLine)
    (hQ : ∀ h' tk acc c as, (∀ b o, s.heap.get? b = some o → h'.get? b = some o) → h'.get? s.heap.objs.size = some { cls := .type "list", dict := none, data := .seq acc c, slots := #[] } → as.length = es.size → DT.Made es s.heap.objs.size h' as →
      acc.toList = as.map Value.ref → Q (.ref s.heap.objs.size) { s with heap := h', toks := tk }) :
    wpAny (model prog w) A (call (.type "list") [.ref r]) Q E s := by
  refine callType_codes (Q₁ := fun obj s₁ => obj = .ref s.heap.objs.size ∧ s₁ = { s with heap := s.heap.push { cls := .type "list", data := .seq #[] } }) PySem.F.called_list (PySem.F.typeCall_list_1 _) PySem.F.entry_list_init
    (code_list_new _ ⟨rfl, rfl⟩) fun obj s₁ h₁ => ?_
  obtain ⟨rfl, rfl⟩ := h₁
  have hS : (s.heap.push { cls := .type "list", data := .seq #[] }).get? s.heap.objs.size = some { cls := .type "list", data := .seq #[] } := Heap.get?_push_size _ rfl
  have hr : r < s.heap.objs.size := let ⟨_, ho, _⟩ := hv; Heap.lt_size ho
  have hd : d < s.heap.objs.size := hm.lt
  refine ⟨⟨_, hS, rfl⟩, PySem.F.args_list_init_2 _ _, pr_initI (es := es) (ep := ep) (A := A.in1) hh (let ⟨o, ho, x⟩ := hv; ⟨o, Heap.get?_push_of_some _ ho, x⟩) (hm.push _) _ (Nat.ne_of_gt hr) (Nat.ne_of_lt hd) hS (fun h' tk acc c as hk hS' hl hG hacc => ?_) hn⟩
  exact ⟨rfl, hQ h' tk acc c as (fun b o e => hk b o (Nat.ne_of_lt (Heap.lt_size e)) (Heap.get?_push_of_some _ e)) hS' hl hG hacc⟩
end
end PySem.W
namespace Pr
open PySem PySem.Spec PyProof.Rows L2
def rListIt : List V → Hp → VK → Prop := fun vs H Q => ∃ (p a : Addr) (kvs : List (List L2.Key × V)), vs = [.ref p] ∧ H p = some (DX.itemsO p a) ∧ H a = some (.dT kvs) ∧
  ∀ (H' : Hp) (l : Addr) (ts : List Addr), (∀ b o, H b = some o → H' b = some o) → H l = none → H' l = some (.lst (ts.map V.ref)) → ts.length = kvs.length →
    (∀ (j : Nat) (t : Addr) (k : List L2.Key) (v : V), ts[j]? = some t → kvs[j]? = some (k, v) → ∃ b, H' t = some (.tup [.ref b, v]) ∧ H' b = some (.tup (k.map kV))) → Q (.ref l) H'
theorem cr_listItT {X : Cx} (hc : X.calm = true) : CallR X (.type "list") rListIt := by
  intro pins s σ H xs us Q I r h
  obtain ⟨p, a, kvs, rfl, hp, ha, q⟩ := h
  obtain ⟨u, rfl, ru⟩ := vals1 r
  obtain rfl : u = Value.ref p := ru
  have view : s.heap.IsItemsView p a := (show ObjOk X.prog X.w H s.heap p (DX.itemsO p a) from I.hok p _ hp).1
  obtain ⟨z, hd, xs', rel, o, es, ep, ho, hx, hdat, hes, his, hn⟩ := dt_of I.hok ha
  have l1 : kvs.length = xs'.length := Paired.length rel
  have l2 : es.size = xs'.length := size_of_entries hes
  have hh : X.A.handled = none := I.ok.hd hc
  refine PySem.W.pr_listI (es := es) (ep := ep) hh view ⟨o, ho, hx, hdat⟩ (by omega) fun h' tk acc c as hk hS hl hG hacc => ?_
  have nd : as.Nodup := List.Pairwise.imp (fun h => Nat.ne_of_lt h) hG.rise
  have pr : ∀ (j : Nat) (b : Addr), as[j]? = some b → ∃ (e : List L2.Key × V) (kq : Addr) (v : Value), kvs[j]? = some e ∧ H kq = some (.tup (e.1.map kV)) ∧ L2.RelV e.2 v ∧ h'.get? b = some { cls := .type "tuple", data := .seq #[Value.ref kq, v] } := by
    intro j b hj
    obtain ⟨en, he, hg⟩ := hG.pairs j b hj
    rw [entry_at hes j] at he
    cases hxj : xs'[j]? with
    | none =>
      rw [hxj] at he
      exact nomatch (show (none : Option DictEntry) = some en from he)
    | some x =>
      rw [hxj] at he
      have een : entryOfKey (tupleKind (mixKind X.prog X.w)) x = en := Option.some.inj he
      obtain ⟨e0, he0, r1, r2, r3⟩ := DX.pget rel hxj
      refine ⟨e0, x.2.1, x.2.2, he0, r2, r3, ?_⟩
      rw [hg, ← een]
      all_goals rfl
  have hfS : H s.heap.objs.size = none := I.hok.fresh (Nat.le_refl _)
  have I1 : Inv X pins σ (upd H s.heap.objs.size (.lst (as.map V.ref))) { s with heap := h', toks := tk } := I.laid hk (Nat.le_refl _) ⟨by rw [List.length_map]; omega, acc.toList, c, by rw [hacc]; exact vals_refs as, by rw [Array.toArray_toList]; exact hS⟩
  obtain ⟨H2, I2, g, tt⟩ := DX.takeT (P := fun t vs => ∀ (j : Nat), as[j]? = some t → ∃ (e : List L2.Key × V) (kq : Addr), kvs[j]? = some e ∧ H kq = some (.tup (e.1.map kV)) ∧ vs = [.ref kq, e.2]) I as _ I1 nd fun b hb => by
    obtain ⟨j, hj⟩ := List.mem_iff_getElem?.mp hb
    obtain ⟨e, kq, v, e1, e2, e3, e4⟩ := pr j b hj
    have hlt := hG.above b hb
    refine ⟨Nat.le_of_lt hlt, by rw [upd_ne (Nat.ne_of_gt hlt)]; exact I.hok.fresh (Nat.le_of_lt hlt), [.ref kq, e.2], fun i hi => ?_, fun H2 => ⟨by show 2 ≤ sizeLine; decide, [.ref kq, v], .cons rfl (.cons e3 .nil), ⟨_, e4, rfl, _, rfl⟩⟩⟩
    have eij : i = j := by
      have := (List.getElem?_inj (List.getElem?_eq_some_iff.mp hi).1 nd).mp (hi.trans hj.symm)
      exact this
    rw [eij]
    exact ⟨e, kq, e1, e2, rfl⟩
  refine ⟨.ref s.heap.objs.size, H2, I2, rfl, q H2 _ as (fun b ob e => g b ob (by rw [upd_ne (ne_of_none e hfS)]; exact e)) hfS (g _ _ upd_same) (by omega) fun j t k v hj hkv => ?_⟩
  obtain ⟨vs, h1, h2⟩ := tt t (List.mem_of_getElem? hj)
  obtain ⟨e, kq, e1, e2, e3⟩ := h1 j hj
  rw [hkv] at e1
  cases e1
  rw [e3] at h2
  exact ⟨kq, h2, g _ _ (by rw [upd_ne (ne_of_none e2 hfS)]; exact e2)⟩
end Pr
/-! More of the programs' points: a statement's bodies one by one. Plain Lean. -/
namespace Pr
open PySem
def Sm.bods : Sm → List (List Sm)
  | .ite _ a b => [a, b]
  | .ei a b => [a, b]
  | .wh _ b => [b]
  | .rp b => [b]
  | _ => []
def Sm.loop : Sm → Bool
  | .wh _ _ => true
  | .rp _ => true
  | _ => false
def Sm.tag : Sm → Str
  | .set _ _ => "set"
  | .free _ => "free"
  | .call _ => "call"
  | .ite _ _ _ => "if"
  | .ei _ _ => "either"
  | .wh _ _ => "while"
  | .rp _ => "repeat"
  | .ret => "return"
  | .pass _ => "pass"
theorem Sm.size_bods (s : Sm) : s.size = 1 + (s.bods.map bdS).sum := by cases s <;> simp [Sm.size, Sm.bods]
theorem Sm.deep_bods {s : Sm} {b : List Sm} (h : b ∈ s.bods) : bdP b < s.deep := by
  cases s <;> simp [Sm.bods] at h <;> simp only [Sm.deep]
  · rcases h with h | h <;> rw [h] <;> omega
  · rcases h with h | h <;> rw [h] <;> omega
  · rw [h]; omega
  · rw [h]; omega
theorem Sm.ok_bods {gc lc np : Nat} {s : Sm} {b : List Sm} (k : s.ok gc lc np) (h : b ∈ s.bods) : bdOk gc lc np b := by
  cases s <;> simp [Sm.bods] at h <;> simp only [Sm.ok] at k
  · rcases h with h | h <;> rw [h]
    · exact k.2.1
    · exact k.2.2
  · rcases h with h | h <;> rw [h]
    · exact k.1
    · exact k.2
  · rw [h]; exact k.2
  · rw [h]; exact k
theorem Sm.len_bods (s : Sm) : s.bods.length ≤ 2 := by cases s <;> simp [Sm.bods]
def entsOf (back : Nat) : Nat → List (List Sm) → List Nat
  | _, [] => []
  | p, b :: r => ent p back b :: entsOf back (p + bdS b) r
def ptBs (proc back : Nat) : Nat → List (List Sm) → List Pt
  | _, [] => []
  | p, b :: r => ptB proc p back b ++ ptBs proc back (p + bdS b) r
def Sm.back (place fol : Nat) (s : Sm) : Nat := if s.loop = true then place else fol
theorem ptS_eq (proc place fol : Nat) (s : Sm) : ptS proc place fol s = ⟨proc, some s, some fol, entsOf (s.back place fol) (place + 1) s.bods⟩ :: ptBs proc (s.back place fol) (place + 1) s.bods := by
  cases s <;> simp [ptS, Sm.bods, Sm.back, Sm.loop, entsOf, ptBs]
theorem entsOf_len (back : Nat) : ∀ (p : Nat) (bs : List (List Sm)), (entsOf back p bs).length = bs.length
  | _, [] => rfl
  | p, b :: r => by simp [entsOf, entsOf_len]
theorem entsOf_snoc (back : Nat) : ∀ (p : Nat) (bs : List (List Sm)) (b : List Sm), entsOf back p (bs ++ [b]) = entsOf back p bs ++ [ent (p + (bs.map bdS).sum) back b]
  | p, [], b => by simp [entsOf]
  | p, c :: r, b => by simp [entsOf, entsOf_snoc back (p + bdS c) r b, Nat.add_assoc]
theorem ptBs_snoc (proc back : Nat) : ∀ (p : Nat) (bs : List (List Sm)) (b : List Sm), ptBs proc back p (bs ++ [b]) = ptBs proc back p bs ++ ptB proc (p + (bs.map bdS).sum) back b
  | p, [], b => by simp [ptBs]
  | p, c :: r, b => by simp [ptBs, ptBs_snoc proc back (p + bdS c) r b, Nat.add_assoc]
theorem ptBs_len (proc back : Nat) : ∀ (p : Nat) (bs : List (List Sm)), (ptBs proc back p bs).length = (bs.map bdS).sum
  | _, [] => rfl
  | p, b :: r => by simp [ptBs, ptBs_len, ptB_len]
/-- the points of the first statements, then those of the next one -/
def ptPre (proc place behind : Nat) (b : List Sm) (i : Nat) : List Pt := (ptB proc place behind b).take (bdS (b.take i))
theorem bdS_take {b : List Sm} {i : Nat} {s : Sm} (h : b[i]? = some s) : bdS (b.take (i + 1)) = bdS (b.take i) + s.size := by
  rw [List.take_add_one, h]
  exact bdS_snoc _ _
theorem bdS_take_le (b : List Sm) (i : Nat) : bdS (b.take i) ≤ bdS b := by
  induction b generalizing i with
  | nil => simp
  | cons a r ih =>
    cases i with
    | zero => simp [bdS]
    | succ i => simp only [List.take_succ_cons, bdS]; have := ih i; omega
theorem take_app {α : Type} {S T : List α} {k n : Nat} (h : S.length = k) : (S ++ T).take (k + n) = S ++ T.take n := by
  rw [List.take_append, h, List.take_of_length_le (by omega), Nat.add_sub_cancel_left]
theorem ptB_split (proc : Nat) : ∀ (b : List Sm) (place behind i : Nat) (s : Sm), b[i]? = some s →
    ptPre proc place behind b (i + 1) = ptPre proc place behind b i ++ ptS proc (place + bdS (b.take i)) (ent (place + bdS (b.take i) + s.size) behind (b.drop (i + 1))) s
  | [], _, _, _, _, h => by simp at h
  | a :: r, place, behind, 0, s, h => by
    have e : a = s := by simpa using h
    subst e
    have l := ptS_len proc place (ent (place + a.size) behind r) a
    simp only [ptPre, ptB, List.take_succ_cons, List.take_zero, bdS, Nat.add_zero, List.drop_succ_cons, List.drop_zero, List.nil_append]
    have := take_app (T := ptB proc (place + a.size) behind r) (n := 0) l
    simpa using this
  | a :: r, place, behind, i + 1, s, h => by
    have ih := ptB_split proc r (place + a.size) behind i s (by simpa using h)
    simp only [ptPre] at ih ⊢
    simp only [ptB, List.take_succ_cons, bdS, List.drop_succ_cons]
    have l := ptS_len proc place (ent (place + a.size) behind r) a
    rw [take_app l, take_app l, ih, List.append_assoc]
    simp only [Nat.add_assoc]
theorem ptPre_all (proc place behind : Nat) (b : List Sm) : ptPre proc place behind b b.length = ptB proc place behind b := by
  unfold ptPre
  rw [List.take_length, List.take_of_length_le (by rw [ptB_len]; exact Nat.le_refl _)]
theorem ptPre_zero (proc place behind : Nat) (b : List Sm) : ptPre proc place behind b 0 = [] := by simp [ptPre, bdS]
theorem ptPre_len (proc place behind : Nat) (b : List Sm) (i : Nat) : (ptPre proc place behind b i).length = bdS (b.take i) := by
  unfold ptPre
  rw [List.length_take, ptB_len]
  have := bdS_take_le b i
  omega
/-- the statement's own pieces, as Python's tuple has them behind the word -/
theorem Sm.d_tag (s : Sm) : ∃ r, s.d = .tuple (.str s.tag :: r) := by cases s <;> exact ⟨_, by rw [Sm.d]; rfl⟩
end Pr
/-! A statement's word against the words that are asked for. Printed by a small program. -/
namespace Pr
open PySem PySem.Spec PyProof.Rows L2
def Sm.tagI : Sm → Nat
  | .set _ _ => 0
  | .free _ => 1
  | .ite _ _ _ => 2
  | .ei _ _ => 3
  | .wh _ _ => 4
  | .rp _ => 5
  | .call _ => 6
  | .ret => 7
  | .pass _ => 8
theorem dtag_set (s : Sm) : decide (V.str s.tag = V.str "set") = (s.tagI == 0) := by
  cases s with
  | set => exact (by decide +kernel : decide (V.str ("set" : Str) = V.str "set") = true)
  | free => exact (by decide +kernel : decide (V.str ("free" : Str) = V.str "set") = false)
  | ite => exact (by decide +kernel : decide (V.str ("if" : Str) = V.str "set") = false)
  | ei => exact (by decide +kernel : decide (V.str ("either" : Str) = V.str "set") = false)
  | wh => exact (by decide +kernel : decide (V.str ("while" : Str) = V.str "set") = false)
  | rp => exact (by decide +kernel : decide (V.str ("repeat" : Str) = V.str "set") = false)
  | call => exact (by decide +kernel : decide (V.str ("call" : Str) = V.str "set") = false)
  | ret => exact (by decide +kernel : decide (V.str ("return" : Str) = V.str "set") = false)
  | pass => exact (by decide +kernel : decide (V.str ("pass" : Str) = V.str "set") = false)
theorem dtag_free (s : Sm) : decide (V.str s.tag = V.str "free") = (s.tagI == 1) := by
  cases s with
  | set => exact (by decide +kernel : decide (V.str ("set" : Str) = V.str "free") = false)
  | free => exact (by decide +kernel : decide (V.str ("free" : Str) = V.str "free") = true)
  | ite => exact (by decide +kernel : decide (V.str ("if" : Str) = V.str "free") = false)
  | ei => exact (by decide +kernel : decide (V.str ("either" : Str) = V.str "free") = false)
  | wh => exact (by decide +kernel : decide (V.str ("while" : Str) = V.str "free") = false)
  | rp => exact (by decide +kernel : decide (V.str ("repeat" : Str) = V.str "free") = false)
  | call => exact (by decide +kernel : decide (V.str ("call" : Str) = V.str "free") = false)
  | ret => exact (by decide +kernel : decide (V.str ("return" : Str) = V.str "free") = false)
  | pass => exact (by decide +kernel : decide (V.str ("pass" : Str) = V.str "free") = false)
theorem dtag_if (s : Sm) : decide (V.str s.tag = V.str "if") = (s.tagI == 2) := by
  cases s with
  | set => exact (by decide +kernel : decide (V.str ("set" : Str) = V.str "if") = false)
  | free => exact (by decide +kernel : decide (V.str ("free" : Str) = V.str "if") = false)
  | ite => exact (by decide +kernel : decide (V.str ("if" : Str) = V.str "if") = true)
  | ei => exact (by decide +kernel : decide (V.str ("either" : Str) = V.str "if") = false)
  | wh => exact (by decide +kernel : decide (V.str ("while" : Str) = V.str "if") = false)
  | rp => exact (by decide +kernel : decide (V.str ("repeat" : Str) = V.str "if") = false)
  | call => exact (by decide +kernel : decide (V.str ("call" : Str) = V.str "if") = false)
  | ret => exact (by decide +kernel : decide (V.str ("return" : Str) = V.str "if") = false)
  | pass => exact (by decide +kernel : decide (V.str ("pass" : Str) = V.str "if") = false)
theorem dtag_either (s : Sm) : decide (V.str s.tag = V.str "either") = (s.tagI == 3) := by
  cases s with
  | set => exact (by decide +kernel : decide (V.str ("set" : Str) = V.str "either") = false)
  | free => exact (by decide +kernel : decide (V.str ("free" : Str) = V.str "either") = false)
  | ite => exact (by decide +kernel : decide (V.str ("if" : Str) = V.str "either") = false)
  | ei => exact (by decide +kernel : decide (V.str ("either" : Str) = V.str "either") = true)
  | wh => exact (by decide +kernel : decide (V.str ("while" : Str) = V.str "either") = false)
  | rp => exact (by decide +kernel : decide (V.str ("repeat" : Str) = V.str "either") = false)
  | call => exact (by decide +kernel : decide (V.str ("call" : Str) = V.str "either") = false)
  | ret => exact (by decide +kernel : decide (V.str ("return" : Str) = V.str "either") = false)
  | pass => exact (by decide +kernel : decide (V.str ("pass" : Str) = V.str "either") = false)
theorem dtag_while (s : Sm) : decide (V.str s.tag = V.str "while") = (s.tagI == 4) := by
  cases s with
  | set => exact (by decide +kernel : decide (V.str ("set" : Str) = V.str "while") = false)
  | free => exact (by decide +kernel : decide (V.str ("free" : Str) = V.str "while") = false)
  | ite => exact (by decide +kernel : decide (V.str ("if" : Str) = V.str "while") = false)
  | ei => exact (by decide +kernel : decide (V.str ("either" : Str) = V.str "while") = false)
  | wh => exact (by decide +kernel : decide (V.str ("while" : Str) = V.str "while") = true)
  | rp => exact (by decide +kernel : decide (V.str ("repeat" : Str) = V.str "while") = false)
  | call => exact (by decide +kernel : decide (V.str ("call" : Str) = V.str "while") = false)
  | ret => exact (by decide +kernel : decide (V.str ("return" : Str) = V.str "while") = false)
  | pass => exact (by decide +kernel : decide (V.str ("pass" : Str) = V.str "while") = false)
theorem dtag_repeat (s : Sm) : decide (V.str s.tag = V.str "repeat") = (s.tagI == 5) := by
  cases s with
  | set => exact (by decide +kernel : decide (V.str ("set" : Str) = V.str "repeat") = false)
  | free => exact (by decide +kernel : decide (V.str ("free" : Str) = V.str "repeat") = false)
  | ite => exact (by decide +kernel : decide (V.str ("if" : Str) = V.str "repeat") = false)
  | ei => exact (by decide +kernel : decide (V.str ("either" : Str) = V.str "repeat") = false)
  | wh => exact (by decide +kernel : decide (V.str ("while" : Str) = V.str "repeat") = false)
  | rp => exact (by decide +kernel : decide (V.str ("repeat" : Str) = V.str "repeat") = true)
  | call => exact (by decide +kernel : decide (V.str ("call" : Str) = V.str "repeat") = false)
  | ret => exact (by decide +kernel : decide (V.str ("return" : Str) = V.str "repeat") = false)
  | pass => exact (by decide +kernel : decide (V.str ("pass" : Str) = V.str "repeat") = false)
theorem dtag_call (s : Sm) : decide (V.str s.tag = V.str "call") = (s.tagI == 6) := by
  cases s with
  | set => exact (by decide +kernel : decide (V.str ("set" : Str) = V.str "call") = false)
  | free => exact (by decide +kernel : decide (V.str ("free" : Str) = V.str "call") = false)
  | ite => exact (by decide +kernel : decide (V.str ("if" : Str) = V.str "call") = false)
  | ei => exact (by decide +kernel : decide (V.str ("either" : Str) = V.str "call") = false)
  | wh => exact (by decide +kernel : decide (V.str ("while" : Str) = V.str "call") = false)
  | rp => exact (by decide +kernel : decide (V.str ("repeat" : Str) = V.str "call") = false)
  | call => exact (by decide +kernel : decide (V.str ("call" : Str) = V.str "call") = true)
  | ret => exact (by decide +kernel : decide (V.str ("return" : Str) = V.str "call") = false)
  | pass => exact (by decide +kernel : decide (V.str ("pass" : Str) = V.str "call") = false)
theorem dtag_return (s : Sm) : decide (V.str s.tag = V.str "return") = (s.tagI == 7) := by
  cases s with
  | set => exact (by decide +kernel : decide (V.str ("set" : Str) = V.str "return") = false)
  | free => exact (by decide +kernel : decide (V.str ("free" : Str) = V.str "return") = false)
  | ite => exact (by decide +kernel : decide (V.str ("if" : Str) = V.str "return") = false)
  | ei => exact (by decide +kernel : decide (V.str ("either" : Str) = V.str "return") = false)
  | wh => exact (by decide +kernel : decide (V.str ("while" : Str) = V.str "return") = false)
  | rp => exact (by decide +kernel : decide (V.str ("repeat" : Str) = V.str "return") = false)
  | call => exact (by decide +kernel : decide (V.str ("call" : Str) = V.str "return") = false)
  | ret => exact (by decide +kernel : decide (V.str ("return" : Str) = V.str "return") = true)
  | pass => exact (by decide +kernel : decide (V.str ("pass" : Str) = V.str "return") = false)
theorem dtag_pass (s : Sm) : decide (V.str s.tag = V.str "pass") = (s.tagI == 8) := by
  cases s with
  | set => exact (by decide +kernel : decide (V.str ("set" : Str) = V.str "pass") = false)
  | free => exact (by decide +kernel : decide (V.str ("free" : Str) = V.str "pass") = false)
  | ite => exact (by decide +kernel : decide (V.str ("if" : Str) = V.str "pass") = false)
  | ei => exact (by decide +kernel : decide (V.str ("either" : Str) = V.str "pass") = false)
  | wh => exact (by decide +kernel : decide (V.str ("while" : Str) = V.str "pass") = false)
  | rp => exact (by decide +kernel : decide (V.str ("repeat" : Str) = V.str "pass") = false)
  | call => exact (by decide +kernel : decide (V.str ("call" : Str) = V.str "pass") = false)
  | ret => exact (by decide +kernel : decide (V.str ("return" : Str) = V.str "pass") = false)
  | pass => exact (by decide +kernel : decide (V.str ("pass" : Str) = V.str "pass") = true)
theorem inv_loop (s : Sm) : inV (V.str s.tag) [V.str "while", V.str "repeat"] = s.loop := by
  cases s with
  | set => exact (by decide +kernel : inV (V.str ("set" : Str)) [V.str "while", V.str "repeat"] = false)
  | free => exact (by decide +kernel : inV (V.str ("free" : Str)) [V.str "while", V.str "repeat"] = false)
  | ite => exact (by decide +kernel : inV (V.str ("if" : Str)) [V.str "while", V.str "repeat"] = false)
  | ei => exact (by decide +kernel : inV (V.str ("either" : Str)) [V.str "while", V.str "repeat"] = false)
  | wh => exact (by decide +kernel : inV (V.str ("while" : Str)) [V.str "while", V.str "repeat"] = true)
  | rp => exact (by decide +kernel : inV (V.str ("repeat" : Str)) [V.str "while", V.str "repeat"] = true)
  | call => exact (by decide +kernel : inV (V.str ("call" : Str)) [V.str "while", V.str "repeat"] = false)
  | ret => exact (by decide +kernel : inV (V.str ("return" : Str)) [V.str "while", V.str "repeat"] = false)
  | pass => exact (by decide +kernel : inV (V.str ("pass" : Str)) [V.str "while", V.str "repeat"] = false)
theorem inv_test (s : Sm) : inV (V.str s.tag) [V.str "if", V.str "while"] = (s.tagI == 2 || s.tagI == 4) := by
  cases s with
  | set => exact (by decide +kernel : inV (V.str ("set" : Str)) [V.str "if", V.str "while"] = false)
  | free => exact (by decide +kernel : inV (V.str ("free" : Str)) [V.str "if", V.str "while"] = false)
  | ite => exact (by decide +kernel : inV (V.str ("if" : Str)) [V.str "if", V.str "while"] = true)
  | ei => exact (by decide +kernel : inV (V.str ("either" : Str)) [V.str "if", V.str "while"] = false)
  | wh => exact (by decide +kernel : inV (V.str ("while" : Str)) [V.str "if", V.str "while"] = true)
  | rp => exact (by decide +kernel : inV (V.str ("repeat" : Str)) [V.str "if", V.str "while"] = false)
  | call => exact (by decide +kernel : inV (V.str ("call" : Str)) [V.str "if", V.str "while"] = false)
  | ret => exact (by decide +kernel : inV (V.str ("return" : Str)) [V.str "if", V.str "while"] = false)
  | pass => exact (by decide +kernel : inV (V.str ("pass" : Str)) [V.str "if", V.str "while"] = false)
end Pr
/-! The law's own making of a program. -/
namespace Pr
open PySem PySem.Spec PyProof.Rows L2
open C8 (Cal Met Mak pe_c pe_mk pe_mt pe_mt0)
/-- the drawn numbers' state: the numbers, how far, what is left of the budget -/
def Gs (H : Hp) (st nl : Addr) (b : Nat) : Prop := ∃ (ns : List Int) (i : Int), H st = some (.lst [.ref nl, .int i, .int b]) ∧ H nl = some (.lst (ns.map V.int)) ∧ ns.length = 31
theorem Gs.same {H H' : Hp} {st nl : Addr} {b : Nat} (g : Gs H st nl b) (e : Same H H') : Gs H' st nl b := by
  obtain ⟨ns, i, h1, h2, h3⟩ := g
  exact ⟨ns, i, e _ _ h1, e _ _ h2, h3⟩
theorem Gs.some {H : Hp} {st nl : Addr} {b : Nat} (g : Gs H st nl b) : ∃ xs, H st = some (.lst xs) := by
  obtain ⟨ns, i, h1, _⟩ := g
  exact ⟨_, h1⟩
theorem Gs.ne {H : Hp} {st nl l : Addr} {b : Nat} (g : Gs H st nl b) (h : H l = none) : l ≠ st := fun e => by
  obtain ⟨xs, h1⟩ := g.some
  rw [e, h1] at h
  cases h
theorem SameB.tups {H H' : Hp} {st : Addr} {xs : List V} (h : H st = some (.lst xs)) (e : SameB (fun a => a = st) H H') : Tups H H' := fun b ys hb => e b _ hb fun z => by
  rw [z, h] at hb
  cases hb
theorem Gs.tups {H H' : Hp} {st nl : Addr} {b : Nat} (g : Gs H st nl b) (e : SameB (fun a => a = st) H H') : Tups H H' := by
  obtain ⟨xs, h1⟩ := g.some
  exact e.tups h1
/-- the counts: globals, locals, procedures -/
def Cn (H : Hp) (c : Addr) (gc lc np : Nat) : Prop := H c = some (.lst [.int gc, .int lc, .int np])
theorem Cn.keep {H H' : Hp} {st nl c : Addr} {b gc lc np : Nat} (k : Cn H c gc lc np) (g : Gs H st nl b) (e : SameB (fun a => a = st) H H') : Cn H' c gc lc np := by
  obtain ⟨ns, i, h1, _⟩ := g
  exact e c _ k fun z => by
    rw [z] at k
    have k2 : H st = some (.lst [.int gc, .int lc, .int np]) := k
    rw [h1] at k2
    cases k2
/-- behind some draws -/
structure Gd (st nl : Addr) (H H' : Hp) (b' : Nat) : Prop where
  sb : SameB (fun a => a = st) H H'
  gs : Gs H' st nl b'
theorem Gd.trans {st nl : Addr} {H H1 H2 : Hp} {b1 b2 : Nat} (a : Gd st nl H H1 b1) (b : Gd st nl H1 H2 b2) : Gd st nl H H2 b2 := ⟨a.sb.trans b.sb, b.gs⟩
theorem Gd.refl {st nl : Addr} {H : Hp} {b : Nat} (g : Gs H st nl b) : Gd st nl H H b := ⟨(Same.refl H).b, g⟩
theorem Gd.new {st nl : Addr} {H H1 : Hp} {b : Nat} {p : Addr} {o : HO} (a : Gd st nl H H1 b) (h : H1 p = none) : Gd st nl H (upd H1 p o) b := ⟨a.sb.trans (same_upd h).b, a.gs.same (same_upd h)⟩
theorem Rp.new {H : Hp} {p : Addr} {ds : List PyData} {xs : List V} (h : H p = none) (r : RpAll H ds xs) : Rp (upd H p (.tup xs)) (.tuple ds) (.ref p) := ⟨p, xs, rfl, upd_same, RpAll.at (same_upd h).tups ds xs r⟩
section
variable {P : Program} {w : World} {K : PySem.W.Frag} {mg : Str → Option Value} {base : Heap}
/-! ### _law_numbers -/
def sp_numbers (K : PySem.W.Frag) : Sp := fun vs H Q _ => ∃ (a : Addr) (ns : List Int), vs = [.ref a, .int 31] ∧ SqL K H a (ns.map V.int) ∧ ns.length ≤ 63 ∧
  ∀ (p : Addr) (ms : List Int) (H' : Hp), H p = none → Same H H' → H' p = some (.lst (ms.map V.int)) → ms.length = 31 → Q (.ref p) H'
abbrev n__law_numbers : List Str := ["_law_script", "_law_count", "_law_rest", "_law_by_digits", "_law_numbers_here", "_law_k", "_law_cell"]
theorem sc__law_numbers : FnScope n__law_numbers ["_law_script", "_law_count"] (defScope s__law_numbers) := ⟨rfl, rfl, rfl, by decide +kernel, rfl, by decide +kernel, by decide +kernel⟩
theorem at_ints {ns : List Int} {k : Int} (h0 : 0 ≤ k) (h1 : k < (ns.length : Int)) : atI (ns.map V.int) k = some (.int (ns[k.toNat]'(by omega))) := by
  have ek : k = ((k.toNat : Nat) : Int) := by omega
  have hk : k.toNat < ns.length := by omega
  have q : atI (ns.map V.int) ((k.toNat : Nat) : Int) = some (.int ns[k.toNat]) := atI_nat (by rw [List.getElem?_map, List.getElem?_eq_getElem hk] <;> rfl)
  rw [← ek] at q
  exact q
theorem ok_numbers (T : Env K mg) : Cal P w K mg base 1 "_law_numbers" (sp_numbers K) [] := by
  obtain ⟨fd, F⟩ := T.F__law_numbers
  refine cal_by F T.g__law_numbers (F.bindsN fun _ _ _ _ _ _ us hl => match us, hl with | [_, _], _ => rfl) sc__law_numbers (fun vs H Q E h => ?_) (fun cdv A outer s H vs Q E hr h => ?_)
  · obtain ⟨a, ns, rfl, _⟩ := h
    rfl
  obtain ⟨a, ns, rfl, hS, h63, k⟩ := h
  have hl : (ns.map V.int).length = ns.length := List.length_map _
  refine ⟨_, pss_cons (ps_set (i := 2) sc__law_numbers.nd rfl (Or.inl rfl) pe_int)
      (C8.pss_cut (ps_if (pt_cmpR op_gt (pe_callB call_len_seq (by rfl) T.f_len (by decide +kernel) (pa_cons (pv 0) pa_nil)) pe_int (nomark _))
        (pss_one (ps_set (i := 2) sc__law_numbers.nd rfl (Or.inl rfl) (pe_ix ix_list (pv 0) pe_int (fun _ _ => rfl))))
        pss_nil)
      (pss_cons (ps_set (i := 3) sc__law_numbers.nd rfl (Or.inl rfl) (pe_cmpR op_ge (pv 2) (pe_op op_pow pe_int pe_int) (nomark _)))
      (pss_cons (ps_set (i := 4) sc__law_numbers.nd rfl (Or.inl rfl) (pe_lst pa_nil))
      (pss_cons (ps_for PassesOwn.never rfl (pi_range1 rfl T.f_range (pa_cons (pv 1) pa_nil)) (pg_name (i := 5) sc__law_numbers.nd rfl (Or.inl rfl))
        (pss_one (ps_if (PW.pt (pw_and (pt_val (pv 3)) (pw_and1 (pt_cmpR op_gt (pv 2) pe_int (nomark _)))))
          (pss_cons (ps_expr (pe_bm PySem.F.plainAttrs_list PySem.F.slot_list_append PySem.F.type_list_append mt_append (pv 4) (pa_cons (pe_op op_mod (pv 2) pe_int) pa_nil)))
          (pss_one (ps_set (i := 2) sc__law_numbers.nd rfl (Or.inl rfl) (pe_op op_fdiv (pv 2) pe_int))))
          (pss_cons (ps_set (i := 6) sc__law_numbers.nd rfl (Or.inl rfl) pe_int)
          (C8.pss_cut (ps_if (pt_cmpR op_gt (pe_callB call_len_seq (by rfl) T.f_len (by decide +kernel) (pa_cons (pv 0) pa_nil)) pe_int (nomark _))
            (pss_one (ps_set (i := 6) sc__law_numbers.nd rfl (Or.inl rfl) (pe_op op_add (pe_ix ix_list (pv 0) (pe_op op_mod (pv 5) (pe_callB call_len_seq (by rfl) T.f_len (by decide +kernel) (pa_cons (pv 0) pa_nil))) (fun _ _ => rfl)) (pe_op op_mul pe_int (pv 5)))))
            pss_nil)
          (pss_one (ps_expr (pe_bm PySem.F.plainAttrs_list PySem.F.slot_list_append PySem.F.type_list_append mt_append (pv 4) (pa_cons (pe_op op_mod (pe_op op_mod (pe_op op_mul (pe_op op_mod (pe_op op_mul (pv 6) pe_int) pe_int) pe_int) pe_int) pe_int) pa_nil)))))))))
      (pss_one (ps_ret (pv 4))))))), ?_⟩
  -- the first number, if there is one
  refine ⟨fun σ' H' => H' = H ∧ ∃ z : Int, σ' = [some (.ref a), some (.int 31), some (.int z), none, none, none, none], ?_, ?_⟩
  · refine ⟨_, rfl, a, _, rfl, .inl hS, _, _, rfl, rfl, _, rfl, ?_⟩
    refine ite2 (fun c => ?_) (fun c => ⟨rfl, _, rfl⟩)
    have c' : (0 : Int) < ((ns.map V.int).length : Nat) := of_decide_eq_true c
    rw [hl] at c'
    exact ⟨_, rfl, a, _, _, _, rfl, rfl, hS, at_ints (by decide) c', rfl, _, rfl⟩
  rintro σ' H' ⟨rfl, z, rfl⟩
  refine ⟨_, rfl, _, _, rfl, rfl, ⟨by decide, by decide, by decide⟩, _, _, rfl, rfl, Nat.zero_le _, fun p hp => ?_⟩
  refine ⟨_, rfl, _, rfl, by decide, by decide, ?_⟩
  refine for_range (n := 31) (fun i σ H2 => ∃ (z : Int) (b : Bool) (x y : Option V) (ms : List Int), σ = [some (.ref a), some (.int 31), some (.int z), some (.bl b), some (.ref p), x, y] ∧ Same H' H2 ∧ H2 p = some (.lst (ms.map V.int)) ∧ ms.length = i)
    ⟨_, _, _, _, [], rfl, same_upd hp, upd_same, rfl⟩ ?_ ?_
  · rintro i σ H2 hi ⟨z, b, x, y, ms, rfl, sm, hm, hlen⟩
    have app : ∀ m : Int, ∃ ms' : List Int, Same H' (upd H2 p (.lst (ms.map V.int ++ [V.int m]))) ∧ upd H2 p (.lst (ms.map V.int ++ [V.int m])) p = some (.lst (ms'.map V.int)) ∧ ms'.length = i + 1 := fun m =>
      ⟨ms ++ [m], sm.mut hp, by rw [upd_same, List.map_append]; rfl, by rw [List.length_append, hlen]; rfl⟩
    have hsz : (ms.map V.int).length < sizeLine := smallL (by rw [List.length_map]; omega)
    refine ans_and2 (b1 := b) (b2 := decide ((0 : Int) < z)) (fun Q q => ⟨_, rfl, _, rfl, q⟩) (fun Q q => ⟨_, rfl, _, _, rfl, rfl, _, rfl, q⟩) _ ?_
    refine ite2 (fun _ => ?_) (fun _ => ?_)
    · obtain ⟨ms', s1, s2, s3⟩ := app (z % 1000000)
      refine ⟨_, rfl, .inl ⟨rfl, _, SqL.of hm⟩, _, rfl, _, _, rfl, rfl, (by show (0 : Int) < 1000000; decide), p, _, _, rfl, rfl, hm, hsz, ?_⟩
      exact ⟨_, rfl, _, _, rfl, rfl, ⟨by decide, by decide⟩, _, _, _, _, ms', rfl, s1, s2, s3⟩
    · refine ⟨fun σ' H' => H' = H2 ∧ ∃ c : Int, σ' = [some (.ref a), some (.int 31), some (.int z), some (.bl b), some (.ref p), some (.int (0 + (i : Nat))), some (.int c)], ?_, ?_⟩
      · refine ⟨_, rfl, a, _, rfl, .inl (sm.seq hS), _, _, rfl, rfl, _, rfl, ?_⟩
        refine ite2 (fun c => ?_) (fun c => ⟨rfl, _, rfl⟩)
        have c' : (0 : Int) < ((ns.map V.int).length : Nat) := of_decide_eq_true c
        have c2 := c'
        rw [hl] at c2
        refine ⟨_, rfl, _, rfl, _, rfl, a, _, rfl, .inl (sm.seq hS), _, _, rfl, rfl, c', a, _, _, _, rfl, rfl, sm.seq hS, at_ints (Int.emod_nonneg _ (by omega)) ?_, ?_⟩
        · rw [hl]
          exact Int.emod_lt_of_pos _ c2
        · exact ⟨_, rfl, _, _, rfl, rfl, .inl ⟨by decide, by decide⟩, _, _, rfl, rfl, rfl, _, rfl⟩
      · rintro σ' H3 ⟨rfl, c, rfl⟩
        obtain ⟨ms', s1, s2, s3⟩ := app (c * 48271 % 2147483647 * 69621 % 2147483629 % 1000000)
        refine ⟨_, rfl, .inl ⟨rfl, _, SqL.of hm⟩, _, rfl, _, _, rfl, rfl, .inr ⟨by decide, by decide⟩, _, _, rfl, rfl, (by show (0 : Int) < 2147483647; decide), _, _, rfl, rfl, .inr ⟨by decide, by decide⟩,
          _, _, rfl, rfl, (by show (0 : Int) < 2147483629; decide), _, _, rfl, rfl, (by show (0 : Int) < 1000000; decide), p, _, _, rfl, rfl, hm, hsz, ?_⟩
        exact ⟨_, _, _, _, ms', rfl, s1, s2, s3⟩
  · rintro σ H2 ⟨z, b, x, y, ms, rfl, sm, hm, hlen⟩
    exact ⟨_, rfl, k p ms H2 hp sm hm hlen⟩
/-! ### _law_pick -/
def sp_pick : Sp := fun vs H Q _ => ∃ (st nl : Addr) (m : Int) (b : Nat), vs = [.ref st, .int m] ∧ Gs H st nl b ∧ 0 < m ∧ ∀ (r : Nat) (H' : Hp), (r : Int) < m → Gd st nl H H' b → Q (.int r) H'
abbrev n__law_pick : List Str := ["_law_state", "_law_most", "_law_number"]
theorem sc__law_pick : FnScope n__law_pick ["_law_state", "_law_most"] (defScope s__law_pick) := ⟨rfl, rfl, rfl, by decide +kernel, rfl, by decide +kernel, by decide +kernel⟩
theorem ok_pick (T : Env K mg) : Cal P w K mg base 1 "_law_pick" sp_pick [] := by
  obtain ⟨fd, F⟩ := T.F__law_pick
  refine cal_by F T.g__law_pick (F.bindsN fun _ _ _ _ _ _ us hl => match us, hl with | [_, _], _ => rfl) sc__law_pick (fun vs H Q E h => ?_) (fun cdv A outer s H vs Q E hr h => ?_)
  · obtain ⟨st, nl, m, b, rfl, _⟩ := h
    rfl
  obtain ⟨st, nl, m, b, rfl, g, hm, k⟩ := h
  obtain ⟨ns, i, h1, h2, h3⟩ := id g
  have hl : (ns.map V.int).length = 31 := by rw [List.length_map, h3]
  have hne : nl ≠ st := by
    intro e
    rw [e, h1] at h2
    have e2 := Option.some.inj h2
    injection e2 with e3
    cases ns with
    | nil => cases e3
    | cons a r =>
      rw [List.map_cons] at e3
      injection e3 with e4
      cases e4
  refine ⟨_, pss_cons (ps_set (i := 2) sc__law_pick.nd rfl (Or.inl rfl) (pe_ix ix_list (pe_ix ix_list (pv 0) pe_int (fun _ _ => rfl)) (pe_op op_mod (pe_ix ix_list (pv 0) pe_int (fun _ _ => rfl)) (pe_callB call_len_seq (by rfl) T.f_len (by decide +kernel) (pa_cons (pe_ix ix_list (pv 0) pe_int (fun _ _ => rfl)) pa_nil))) (fun _ _ => rfl)))
      (pss_cons (ps_asg (pe_op op_add (pe_ix ix_list (pv 0) pe_int (fun _ _ => rfl)) pe_int) (pg_sub (pv 0) pe_int set_list))
      (pss_one (ps_ret (pe_op op_mod (pe_op op_add (pe_op op_fdiv (pv 2) pe_int) (pe_op op_mul pe_int (pe_ix ix_list (pv 0) pe_int (fun _ _ => rfl)))) (pv 1))))), ?_⟩
  refine ⟨_, rfl, st, _, _, _, rfl, rfl, SqL.of h1, rfl, _, rfl, st, _, _, _, rfl, rfl, SqL.of h1, rfl, _, rfl, st, _, _, _, rfl, rfl, SqL.of h1, rfl, nl, _, rfl, .inl (SqL.of h2), _, _, rfl, rfl, (by show (0 : Int) < ((ns.map V.int).length : Nat); rw [hl]; decide),
    nl, _, _, _, rfl, rfl, SqL.of h2, at_ints (Int.emod_nonneg _ (by rw [hl]; decide)) (by rw [hl, h3]; exact Int.emod_lt_of_pos _ (by decide)), ?_⟩
  refine ⟨_, rfl, st, _, _, _, rfl, rfl, SqL.of h1, rfl, _, _, rfl, rfl, _, rfl, st, _, _, 1, rfl, rfl, h1, rfl, ?_⟩
  refine ⟨_, rfl, _, _, rfl, rfl, ⟨by decide, by decide⟩, _, rfl, st, _, _, _, rfl, rfl, SqL.of upd_same, rfl, _, _, rfl, rfl, .inl ⟨by decide, by decide⟩, _, _, rfl, rfl, _, rfl, _, _, rfl, rfl, hm, ?_⟩
  generalize hz : (ns[(i % ((List.map V.int ns).length : Nat)).toNat]'_ / 7 + 31 * (i + 1)) = z
  have hr : ((z % m).toNat : Int) = z % m := Int.toNat_of_nonneg (Int.emod_nonneg _ (by omega))
  show Q (.int (z % m)) (upd H st (.lst [.ref nl, .int (i + 1), .int b]))
  rw [← hr]
  refine k _ _ (by rw [hr]; exact Int.emod_lt_of_pos _ hm) ⟨SameB.upd (Same.b (Same.refl H)) rfl, ns, i + 1, upd_same, ?_, h3⟩
  rw [upd_ne hne]
  exact h2
/-! ### _law_variable -/
/-- a variable, or None -/
def RpO (H : Hp) (gc lc : Nat) : Option Vr → V → Prop
  | none, v => v = .non
  | some x, v => x.ok gc lc ∧ Rp H x.d v
theorem RpO.at {H H' : Hp} {gc lc : Nat} {o : Option Vr} {v : V} (t : Tups H H') (h : RpO H gc lc o v) : RpO H' gc lc o v := by
  cases o with
  | none => exact h
  | some x => exact ⟨h.1, Rp.at t _ _ h.2⟩
def sp_variable : Sp := fun vs H Q _ => ∃ (st nl c : Addr) (gc lc np b : Nat), vs = [.ref st, .ref c] ∧ Gs H st nl b ∧ Cn H c gc lc np ∧ gc ≤ 1000 ∧ lc ≤ 1000 ∧
  ∀ (o : Option Vr) (v : V) (H' : Hp), Gd st nl H H' b → RpO H' gc lc o v → Q v H'
abbrev n__law_variable : List Str := ["_law_state", "_law_counts", "_law_names", "_law_k"]
theorem sc__law_variable : FnScope n__law_variable ["_law_state", "_law_counts"] (defScope s__law_variable) := ⟨rfl, rfl, rfl, by decide +kernel, rfl, by decide +kernel, by decide +kernel⟩
theorem range_snoc (n : Nat) : List.range (n + 1) = List.range n ++ [n] := List.range_succ
theorem ok_variable (T : Env K mg) (c__law_pick : Cal P w K mg base 1 "_law_pick" sp_pick []) : Cal P w K mg base 2 "_law_variable" sp_variable [] := by
  obtain ⟨fd, F⟩ := T.F__law_variable
  refine cal_by F T.g__law_variable (F.bindsN fun _ _ _ _ _ _ us hl => match us, hl with | [_, _], _ => rfl) sc__law_variable (fun vs H Q E h => ?_) (fun cdv A outer s H vs Q E hr h => ?_)
  · obtain ⟨st, nl, c, gc, lc, np, b, rfl, _⟩ := h
    rfl
  obtain ⟨st, nl, c, gc, lc, np, b, rfl, g, hc, hg, hlc, k⟩ := h
  refine ⟨_, pss_cons (ps_set (i := 2) sc__law_variable.nd rfl (Or.inl rfl) (pe_lst pa_nil))
      (pss_cons (ps_for PassesOwn.never rfl (pi_range1 rfl T.f_range (pa_cons (pe_ix ix_list (pv 1) pe_int (fun _ _ => rfl)) pa_nil)) (pg_name (i := 3) sc__law_variable.nd rfl (Or.inl rfl))
        (pss_one (ps_expr (pe_bm PySem.F.plainAttrs_list PySem.F.slot_list_append PySem.F.type_list_append mt_append (pv 2) (pa_cons (pe_tup (pa_cons pe_str (pa_cons (pv 3) pa_nil))) pa_nil)))))
      (pss_cons (ps_for PassesOwn.never rfl (pi_range1 rfl T.f_range (pa_cons (pe_ix ix_list (pv 1) pe_int (fun _ _ => rfl)) pa_nil)) (pg_name (i := 3) sc__law_variable.nd rfl (Or.inl rfl))
        (pss_one (ps_expr (pe_bm PySem.F.plainAttrs_list PySem.F.slot_list_append PySem.F.type_list_append mt_append (pv 2) (pa_cons (pe_tup (pa_cons pe_str (pa_cons (pv 3) pa_nil))) pa_nil)))))
      (pss_cons (ps_if (pt_cmpR op_eq (pe_callB call_len_seq (by rfl) T.f_len (by decide +kernel) (pa_cons (pv 2) pa_nil)) pe_int (nomark _))
        (pss_one (ps_ret pe_non))
        pss_nil)
      (pss_one (ps_ret (pe_ix ix_list (pv 2) (pe_c c__law_pick hr (by omega) rfl (pa_cons (pv 0) (pa_cons (pe_callB call_len_seq (by rfl) T.f_len (by decide +kernel) (pa_cons (pv 2) pa_nil)) pa_nil))) (fun _ _ => rfl))))))), ?_⟩
  refine ⟨Nat.zero_le _, fun l hl => ?_⟩
  have lst := g.ne hl
  have c1 : ∀ {H1 : Hp}, Same H H1 → SqL K H1 c [.int gc, .int lc, .int np] := fun e => SqL.of (e _ _ hc)
  refine ⟨_, rfl, c, _, _, _, rfl, rfl, c1 (same_upd hl), rfl, _, rfl, by omega, by omega, ?_⟩
  refine for_range (n := (gc : Int).toNat) (fun i σ H1 => ∃ (x : Option V) (xs : List V), σ = [some (.ref st), some (.ref c), some (.ref l), x] ∧ Same H H1 ∧ H1 l = some (.lst xs) ∧ RpAll H1 ((List.range i).map fun j => (Vr.g j).d) xs)
    ⟨_, _, rfl, same_upd hl, upd_same, rfl⟩ ?_ ?_
  · rintro i σ H1 hi ⟨x, xs, rfl, sm, hx, rx⟩
    have hxl : xs.length = i := by rw [rx.len, List.length_map, List.length_range]
    refine ⟨_, rfl, .inl ⟨rfl, _, SqL.of hx⟩, _, rfl, (by show 2 ≤ sizeLine; decide), fun t ht => ?_⟩
    have e1 : (upd H1 t (.tup [.str "global", .int (0 + (i : Nat))])) l = some (.lst xs) := same_upd ht _ _ hx
    refine ⟨l, _, _, rfl, rfl, e1, smallL (by omega), ?_⟩
    refine ⟨_, _, rfl, (sm.new ht).mut hl, upd_same, ?_⟩
    rw [range_snoc, List.map_append]
    refine RpAll.at (fun b ys hb => by rw [upd_ne (ne_of hb e1 (by intro z; cases z))]; exact hb) _ _ (RpAll.snoc (RpAll.at (same_upd ht).tups _ _ rx) ?_)
    refine ⟨t, _, rfl, upd_same, .cons rfl (.one ?_)⟩
    show V.int (0 + (i : Nat)) = V.int i
    rw [Int.zero_add]
  rintro σ H1 ⟨x, xs, rfl, sm, hx, rx⟩
  refine ⟨_, rfl, c, _, _, _, rfl, rfl, c1 sm, rfl, _, rfl, by omega, by omega, ?_⟩
  refine for_range (n := (lc : Int).toNat) (fun i σ H1 => ∃ (x : Option V) (xs : List V), σ = [some (.ref st), some (.ref c), some (.ref l), x] ∧ Same H H1 ∧ H1 l = some (.lst xs) ∧ RpAll H1 (((List.range gc).map Vr.g ++ (List.range i).map Vr.l).map Vr.d) xs)
    ⟨_, _, rfl, sm, hx, by simpa [Function.comp_def] using rx⟩ ?_ ?_
  · rintro i σ H1 hi ⟨x, xs, rfl, sm, hx, rx⟩
    have hxl : xs.length = gc + i := by rw [rx.len]; simp
    refine ⟨_, rfl, .inl ⟨rfl, _, SqL.of hx⟩, _, rfl, (by show 2 ≤ sizeLine; decide), fun t ht => ?_⟩
    have e1 : (upd H1 t (.tup [.str "local", .int (0 + (i : Nat))])) l = some (.lst xs) := same_upd ht _ _ hx
    refine ⟨l, _, _, rfl, rfl, e1, smallL (by omega), ?_⟩
    refine ⟨_, _, rfl, (sm.new ht).mut hl, upd_same, ?_⟩
    rw [range_snoc, List.map_append (f := Vr.l), ← List.append_assoc, List.map_append]
    refine RpAll.at (fun b ys hb => by rw [upd_ne (ne_of hb e1 (by intro z; cases z))]; exact hb) _ _ (RpAll.snoc (RpAll.at (same_upd ht).tups _ _ rx) ?_)
    refine ⟨t, _, rfl, upd_same, .cons rfl (.one ?_)⟩
    show V.int (0 + (i : Nat)) = V.int i
    rw [Int.zero_add]
  rintro σ H1 ⟨x, xs, rfl, sm, hx, rx⟩
  rw [Int.toNat_natCast] at rx
  have hxl : xs.length = gc + lc := by rw [rx.len]; simp
  refine ⟨_, rfl, l, _, rfl, .inl (SqL.of hx), rfl, _, rfl, ?_⟩
  refine ite2 (fun _ => k none .non H1 ⟨sm.b, g.same sm⟩ rfl) (fun q => ?_)
  have h0 : ¬ (gc + lc = 0) := fun z => q (by rw [hxl, z]; rfl)
  refine ⟨_, rfl, _, rfl, _, rfl, l, _, rfl, .inl (SqL.of hx), st, nl, _, b, rfl, g.same sm, (by rw [hxl]; omega), fun r H2 hr2 gd => ?_⟩
  have hr3 : r < gc + lc := by rw [hxl] at hr2; omega
  have lst2 : H2 l = some (.lst xs) := gd.sb _ _ hx lst
  have rx2 := RpAll.at ((g.same sm).tups gd.sb) _ _ rx
  obtain ⟨v, hv⟩ : ∃ v, xs[r]? = some v := ⟨_, List.getElem?_eq_getElem (by omega)⟩
  obtain ⟨d, hd, rd⟩ := rx2.getV hv
  refine ⟨l, _, _, v, rfl, rfl, SqL.of lst2, atI_nat hv, ?_⟩
  have gd2 : Gd st nl H H2 b := ⟨sm.b.trans gd.sb, gd.gs⟩
  rw [List.getElem?_map] at hd
  obtain ⟨y, hy, rfl⟩ := Option.map_eq_some_iff.mp hd
  refine k (some y) v H2 gd2 ⟨?_, rd⟩
  have hm := List.mem_of_getElem? hy
  rcases List.mem_append.mp hm with hm | hm
  · obtain ⟨j, hj, rfl⟩ := List.mem_map.mp hm
    exact List.mem_range.mp hj
  · obtain ⟨j, hj, rfl⟩ := List.mem_map.mp hm
    exact List.mem_range.mp hj
/-! ### _law_expression -/
def sp_expression (n : Nat) : Sp := fun vs H Q _ => ∃ (st nl c : Addr) (gc lc np b d : Nat), vs = [.ref st, .ref c, .int d] ∧ d < n ∧ Gs H st nl b ∧ Cn H c gc lc np ∧ gc ≤ 1000 ∧ lc ≤ 1000 ∧
  ∀ (e : Ex) (v : V) (H' : Hp), Gd st nl H H' b → e.ok gc lc → e.deep ≤ d → Rp H' e.d v → Q v H'
abbrev n__law_expression : List Str := ["_law_state", "_law_counts", "_law_deep", "_law_form", "_law_variable_here", "_law_word"]
theorem sc__law_expression : FnScope n__law_expression ["_law_state", "_law_counts", "_law_deep"] (defScope s__law_expression) := ⟨rfl, rfl, rfl, by decide +kernel, rfl, by decide +kernel, by decide +kernel⟩
theorem expression_no : ∀ vs H Q E, ¬ sp_expression 0 vs H Q E := fun vs H Q E ⟨_, _, _, _, _, _, _, _, _, h, _⟩ => Nat.not_lt_zero _ h
theorem ok_expression {n : Nat} (T : Env K mg) (c__law_pick : Cal P w K mg base 1 "_law_pick" sp_pick []) (c__law_variable : Cal P w K mg base 2 "_law_variable" sp_variable []) (c__law_expression : Cal P w K mg base (n + 2) "_law_expression" (sp_expression n) []) :
    Cal P w K mg base (n + 3) "_law_expression" (sp_expression (n + 1)) [] := by
  obtain ⟨fd, F⟩ := T.F__law_expression
  refine cal_by F T.g__law_expression (F.bindsN fun _ _ _ _ _ _ us hl => match us, hl with | [_, _, _], _ => rfl) sc__law_expression (fun vs H Q E h => ?_) (fun cdv A outer s H vs Q E hr h => ?_)
  · obtain ⟨st, nl, c, gc, lc, np, b, d, rfl, _⟩ := h
    rfl
  obtain ⟨st, nl, c, gc, lc, np, b, d, rfl, hd, g, hc, hg, hlc, k⟩ := h
  refine ⟨_, pss_cons (ps_set (i := 3) sc__law_expression.nd rfl (Or.inl rfl) (pe_c c__law_pick hr (by omega) rfl (pa_cons (pv 0) (pa_cons pe_int pa_nil))))
      (pss_cons (ps_set (i := 4) sc__law_expression.nd rfl (Or.inl rfl) (pe_c c__law_variable hr (by omega) rfl (pa_cons (pv 0) (pa_cons (pv 1) pa_nil))))
      (pss_cons (ps_if (PW.pt (pw_or (pt_cmpR op_eq (pv 2) pe_int (nomark _)) (pw_or1 (pt_cmpR op_lt (pv 3) pe_int (nomark _)))))
        (pss_cons (ps_if (PW.pt (pw_or (pt_cmpR op_isN (pv 4) pe_non (nomark _)) (pw_or1 (pt_cmpR op_eq (pe_op op_mod (pv 3) pe_int) pe_int (nomark _)))))
          (pss_one (ps_ret (pe_tup (pa_cons pe_str (pa_cons (pe_cmpR op_eq (pe_c c__law_pick hr (by omega) rfl (pa_cons (pv 0) (pa_cons pe_int pa_nil))) pe_int (nomark _)) pa_nil)))))
          pss_nil)
        (pss_one (ps_ret (pe_tup (pa_cons pe_str (pa_cons (pv 4) pa_nil))))))
        pss_nil)
      (pss_cons (ps_if (pt_cmpR op_eq (pv 3) pe_int (nomark _))
        (pss_one (ps_ret (pe_tup (pa_cons pe_str (pa_cons (pe_c c__law_expression hr (by omega) rfl (pa_cons (pv 0) (pa_cons (pv 1) (pa_cons (pe_op op_sub (pv 2) pe_int) pa_nil)))) pa_nil)))))
        pss_nil)
      (pss_cons (ps_set (i := 5) sc__law_expression.nd rfl (Or.inl rfl) (pe_ix ix_list (pe_lst (pa_cons pe_str (pa_cons pe_str (pa_cons pe_str (pa_cons pe_str pa_nil))))) (pe_op op_sub (pv 3) pe_int) (fun _ _ => rfl)))
      (pss_one (ps_ret (pe_tup (pa_cons (pv 5) (pa_cons (pe_c c__law_expression hr (by omega) rfl (pa_cons (pv 0) (pa_cons (pv 1) (pa_cons (pe_op op_sub (pv 2) pe_int) pa_nil)))) (pa_cons (pe_c c__law_expression hr (by omega) rfl (pa_cons (pv 0) (pa_cons (pv 1) (pa_cons (pe_op op_sub (pv 2) pe_int) pa_nil)))) pa_nil)))))))))), ?_⟩
  refine ⟨_, rfl, st, nl, 7, b, rfl, g, by decide, fun f H1 hf g1 => ?_⟩
  have hc1 := hc.keep g g1.sb
  refine ⟨_, rfl, _, rfl, st, nl, c, gc, lc, np, b, rfl, g1.gs, hc1, hg, hlc, fun o v H2 g2 ro => ?_⟩
  have g12 := g1.trans g2
  have hc2 := hc1.keep g1.gs g2.sb
  -- the draws of a part
  have part : ∀ {H3 : Hp}, Gd st nl H H3 b → ¬ d = 0 → ∀ (tE : List V → Hp → VK → XK → Prop), tE = sp_expression n → ∀ (Q1 : VK) (E1 : XK), (∀ (e : Ex) (v : V) (H4 : Hp), Gd st nl H3 H4 b → e.ok gc lc → e.deep ≤ d - 1 → Rp H4 e.d v → Q1 v H4) → tE [.ref st, .ref c, .int ((d : Int) - 1)] H3 Q1 E1 := by
    intro H3 g3 h0 tE eE Q1 E1 q
    rw [eE]
    refine ⟨st, nl, c, gc, lc, np, b, d - 1, ?_, by omega, g3.gs, hc.keep g g3.sb, hg, hlc, q⟩
    have e : (d : Int) - 1 = ((d - 1 : Nat) : Int) := by omega
    rw [e]
  have dn : (decide (V.int (d : Int) = V.int 0) = true) ↔ d = 0 := by
    rw [decide_eq_true_iff]
    constructor
    · intro e
      injection e with e
      omega
    · rintro rfl
      rfl
  dsimp only [gName, tSeq]
  refine if_or (b1 := decide (V.int (d : Int) = V.int 0)) (b2 := decide ((f : Int) < 2)) (fun Q q => ⟨_, rfl, rfl, _, rfl, q⟩) (fun Q q => ⟨_, rfl, _, _, rfl, rfl, _, rfl, q⟩) ?_
  refine ite2 (fun _ => ?_) (fun c0 => ?_)
  · -- a leaf
    refine if_or (b1 := decide (v = V.non)) (b2 := decide (V.int ((f : Int) % 3) = V.int 1)) (fun Q q => ⟨_, rfl, rfl, _, rfl, q⟩) (fun Q q => ⟨_, rfl, _, _, rfl, rfl, (by show (0 : Int) < 3; decide), rfl, _, rfl, q⟩) ?_
    refine ite2 (fun _ => ?_) (fun c1 => ?_)
    · refine ⟨_, rfl, st, nl, 2, b, rfl, g12.gs, by decide, fun r H3 hr3 g3 => ⟨rfl, (by show 2 ≤ sizeLine; decide), fun p hp => ?_⟩⟩
      refine k (.tr (decide (V.int (r : Nat) = V.int 1))) _ _ ((g12.trans g3).new hp) trivial (Nat.zero_le _) ?_
      exact Rp.new hp (.cons rfl (.one rfl))
    · cases o with
      | none => exact absurd (by rw [(show v = V.non from ro)]; rfl) c1
      | some x =>
        refine ⟨_, rfl, (by show 2 ≤ sizeLine; decide), fun p hp => ?_⟩
        exact k (.of x) _ _ (g12.new hp) ro.1 (Nat.zero_le _) (Rp.new hp (.cons rfl (.one ro.2)))
  have h0 : ¬ d = 0 := fun z => c0 (by rw [dn.mpr z]; rfl)
  refine ⟨_, rfl, rfl, _, rfl, ?_⟩
  refine ite2 (fun _ => ?_) (fun c2 => ?_)
  · refine ⟨_, rfl, _, rfl, _, rfl, _, _, rfl, rfl, part g12 h0 _ rfl _ C8.E0 fun e u H3 g3 ok dp re => ⟨(by show 2 ≤ sizeLine; decide), fun p hp => ?_⟩⟩
    refine k (.no e) _ _ ((g12.trans g3).new hp) ok (by simp only [Ex.deep]; omega) (Rp.new hp (.cons rfl (.one re)))
  have c2' : ¬ f = 2 := fun z => c2 (by rw [z]; rfl)
  have h2 : ¬ (f : Int) < 2 := fun z => c0 (by rw [decide_eq_true z, Bool.or_true])
  -- the word
  refine ⟨(by show 4 ≤ sizeLine; decide), fun l hl => ⟨_, rfl, _, _, rfl, rfl, ?_⟩⟩
  have wd : ∃ (s : Str) (mk : Ex → Ex → Ex), atI [V.str "and", V.str "or", V.str "same", V.str "and"] ((f : Int) - 3) = some (.str s) ∧ ∀ x y, (mk x y).d = .tuple [.str s, x.d, y.d] ∧ (mk x y).deep = max x.deep y.deep + 1 ∧ ((mk x y).ok gc lc ↔ x.ok gc lc ∧ y.ok gc lc) := by
    have : f = 3 ∨ f = 4 ∨ f = 5 ∨ f = 6 := by omega
    rcases this with rfl | rfl | rfl | rfl
    · exact ⟨"and", .an, rfl, fun x y => ⟨rfl, rfl, Iff.rfl⟩⟩
    · exact ⟨"or", .oo, rfl, fun x y => ⟨rfl, rfl, Iff.rfl⟩⟩
    · exact ⟨"same", .sm, rfl, fun x y => ⟨rfl, rfl, Iff.rfl⟩⟩
    · exact ⟨"and", .an, rfl, fun x y => ⟨rfl, rfl, Iff.rfl⟩⟩
  obtain ⟨ws, mk, ew, hmk⟩ := wd
  refine ⟨l, _, _, _, rfl, rfl, SqL.of upd_same, ew, ?_⟩
  have gl := g12.new (o := .lst [V.str "and", V.str "or", V.str "same", V.str "and"]) hl
  refine ⟨_, rfl, _, rfl, _, rfl, _, rfl, _, _, rfl, rfl, part gl h0 _ rfl _ C8.E0 fun e1 u1 H3 g3 ok1 dp1 re1 => ?_⟩
  refine ⟨_, rfl, _, rfl, _, rfl, _, _, rfl, rfl, part (gl.trans g3) h0 _ rfl _ C8.E0 fun e2 u2 H4 g4 ok2 dp2 re2 => ⟨(by show 3 ≤ sizeLine; decide), fun p hp => ?_⟩⟩
  obtain ⟨z1, z2, z3⟩ := hmk e1 e2
  refine k (mk e1 e2) _ _ (((gl.trans g3).trans g4).new hp) (z3.mpr ⟨ok1, ok2⟩) (by rw [z2]; omega) ?_
  rw [z1]
  exact Rp.new hp (.cons rfl (.cons (Rp.at (g3.gs.tups g4.sb) _ _ re1) (.one re2)))
end
end Pr
/-! The law's own making of a program: bodies, statements, the program. -/
namespace Pr
open PySem PySem.Spec PyProof.Rows L2
open C8 (Cal Met Mak pe_c pe_mk pe_mt pe_mt0)
section
variable {P : Program} {w : World} {K : PySem.W.Frag} {mg : Str → Option Value} {base : Heap}
/-- a list of the frame's own changes, the draws' state stands -/
theorem Gd.mut {st nl : Addr} {H H1 : Hp} {b0 b : Nat} {l : Addr} {o : HO} (a : Gd st nl H H1 b) (g0 : Gs H st nl b0) (h : H l = none) : Gd st nl H (upd H1 l o) b := by
  obtain ⟨ns0, i0, x1, x2, _⟩ := g0
  obtain ⟨ns, i, h1, h2, h3⟩ := a.gs
  refine ⟨SameB.none a.sb h, ns, i, ?_, ?_, h3⟩
  · rw [upd_ne (ne_of_none x1 h)]
    exact h1
  · rw [upd_ne (ne_of_none x2 h)]
    exact h2
theorem tups_lst {H : Hp} {l : Addr} {xs : List V} {o : HO} (h : H l = some (.lst xs)) : Tups H (upd H l o) := fun b ys hb => by
  rw [upd_ne (ne_of hb h (by intro z; cases z))]
  exact hb
def sp_body (n : Nat) : Sp := fun vs H Q _ => ∃ (st nl c : Addr) (gc lc np b d m : Nat), vs = [.ref st, .ref c, .int d, .int m] ∧ d < n ∧ Gs H st nl b ∧ Cn H c gc lc np ∧ gc ≤ 1000 ∧ lc ≤ 1000 ∧ 1 ≤ np ∧ m ≤ 100 ∧ b ≤ 1000 ∧
  ∀ (bd : List Sm) (v : V) (b' : Nat) (H' : Hp), Gd st nl H H' b' → bdOk gc lc np bd → bdP bd ≤ d → b' + bdS bd = b → Rp H' (.tuple (bdD bd)) v → Q v H'
def sp_statement (n : Nat) : Sp := fun vs H Q _ => ∃ (st nl c : Addr) (gc lc np b d : Nat), vs = [.ref st, .ref c, .int d] ∧ d < n ∧ Gs H st nl b ∧ Cn H c gc lc np ∧ gc ≤ 1000 ∧ lc ≤ 1000 ∧ 1 ≤ np ∧ b ≤ 1000 ∧
  ∀ (s : Sm) (v : V) (b' : Nat) (H' : Hp), Gd st nl H H' b' → s.ok gc lc np → s.deep ≤ d → b' + s.size = b + 1 → Rp H' s.d v → Q v H'
theorem body_no : ∀ vs H Q E, ¬ sp_body 0 vs H Q E := fun vs H Q E ⟨_, _, _, _, _, _, _, _, _, _, h, _⟩ => Nat.not_lt_zero _ h
theorem statement_no : ∀ vs H Q E, ¬ sp_statement 0 vs H Q E := fun vs H Q E ⟨_, _, _, _, _, _, _, _, _, h, _⟩ => Nat.not_lt_zero _ h
abbrev n__law_body : List Str := ["_law_state", "_law_counts", "_law_deep", "_law_most", "_law_body_here", "_law_k"]
theorem sc__law_body : FnScope n__law_body ["_law_state", "_law_counts", "_law_deep", "_law_most"] (defScope s__law_body) := ⟨rfl, rfl, rfl, by decide +kernel, rfl, by decide +kernel, by decide +kernel⟩
theorem bdP_snoc {bd : List Sm} {s : Sm} {d : Nat} (h : bdP bd ≤ d) (h2 : s.deep ≤ d) : bdP (bd ++ [s]) ≤ d := bdP_mem.mpr fun x hx => by
  rcases List.mem_append.mp hx with hx | hx
  · exact bdP_mem.mp h x hx
  · rw [List.mem_singleton.mp hx]; exact h2
theorem bdOk_snoc {gc lc np : Nat} {bd : List Sm} {s : Sm} (h : bdOk gc lc np bd) (h2 : s.ok gc lc np) : bdOk gc lc np (bd ++ [s]) := bdOk_mem.mpr fun x hx => by
  rcases List.mem_append.mp hx with hx | hx
  · exact bdOk_mem.mp h x hx
  · rw [List.mem_singleton.mp hx]; exact h2
theorem bdD_snoc (bd : List Sm) (s : Sm) : bdD (bd ++ [s]) = bdD bd ++ [s.d] := by rw [bdD_map, bdD_map, List.map_append]; rfl
theorem ok_body {n m : Nat} (T : Env K mg) (hm : 1 ≤ m) (c__law_pick : Cal P w K mg base 1 "_law_pick" sp_pick []) (c__law_statement : Cal P w K mg base m "_law_statement" (sp_statement n) []) : Cal P w K mg base (m + 1) "_law_body" (sp_body n) [] := by
  obtain ⟨fd, F⟩ := T.F__law_body
  refine cal_by F T.g__law_body (F.bindsN fun _ _ _ _ _ _ us hl => match us, hl with | [_, _, _, _], _ => rfl) sc__law_body (fun vs H Q E h => ?_) (fun cdv A outer s H vs Q E hr h => ?_)
  · obtain ⟨st, nl, c, gc, lc, np, b, d, m, rfl, _⟩ := h
    rfl
  obtain ⟨st, nl, c, gc, lc, np, b, d, m, rfl, hd, g, hc, hg, hlc, hnp, hm', hb, k⟩ := h
  refine ⟨_, pss_cons (ps_set (i := 4) sc__law_body.nd rfl (Or.inl rfl) (pe_lst pa_nil))
      (pss_cons (ps_for PassesOwn.never rfl (pi_range1 rfl T.f_range (pa_cons (pe_c c__law_pick hr (by omega) rfl (pa_cons (pv 0) (pa_cons (pe_op op_add (pv 3) pe_int) pa_nil))) pa_nil)) (pg_name (i := 5) sc__law_body.nd rfl (Or.inl rfl))
        (pss_one (ps_if (pt_cmpR op_gt (pe_ix ix_list (pv 0) pe_int (fun _ _ => rfl)) pe_int (nomark _))
          (pss_cons (ps_asg (pe_op op_sub (pe_ix ix_list (pv 0) pe_int (fun _ _ => rfl)) pe_int) (pg_sub (pv 0) pe_int set_list))
          (pss_one (ps_expr (pe_bm PySem.F.plainAttrs_list PySem.F.slot_list_append PySem.F.type_list_append mt_append (pv 4) (pa_cons (pe_c c__law_statement hr (by omega) rfl (pa_cons (pv 0) (pa_cons (pv 1) (pa_cons (pv 2) pa_nil)))) pa_nil)))))
          pss_nil)))
      (pss_one (ps_ret (pe_callTy call_tuple_of (by rfl) T.f_tuple (by decide +kernel) (pa_cons (pv 4) pa_nil))))), ?_⟩
  refine ⟨Nat.zero_le _, fun l hl => ?_⟩
  have lst := g.ne hl
  have em : (m : Int) + 1 = ((m + 1 : Nat) : Int) := by omega
  refine ⟨_, rfl, _, rfl, _, _, rfl, rfl, st, nl, _, b, rfl, g.same (same_upd hl), (by omega), fun r H1 hr1 g1 => ?_⟩
  refine ⟨_, rfl, by omega, by omega, ?_⟩
  have l1 : H1 l = some (.lst []) := g1.sb _ _ upd_same lst
  have g1' : Gd st nl H H1 b := ⟨(Same.b (same_upd hl)).trans g1.sb, g1.gs⟩
  refine for_range (n := (r : Int).toNat) (fun i σ H1 => ∃ (x : Option V) (bd : List Sm) (xs : List V) (b1 : Nat), σ = [some (.ref st), some (.ref c), some (.int d), some (.int m), some (.ref l), x] ∧ Gd st nl H H1 b1 ∧ H1 l = some (.lst xs) ∧ RpAll H1 (bdD bd) xs ∧ bdOk gc lc np bd ∧ bdP bd ≤ d ∧ b1 + bdS bd = b)
    ⟨_, [], [], b, rfl, g1', l1, rfl, trivial, Nat.zero_le _, rfl⟩ ?_ ?_
  · rintro i σ H1 hi ⟨x, bd, xs, b1, rfl, g1, hx, rx, ok, dp, hb1⟩
    obtain ⟨ns, j, h1, h2, h3⟩ := id g1.gs
    refine ⟨_, rfl, st, _, _, _, rfl, rfl, SqL.of h1, rfl, _, _, rfl, rfl, _, rfl, ?_⟩
    refine ite2 (fun q => ?_) (fun q => ⟨_, bd, xs, b1, rfl, g1, hx, rx, ok, dp, hb1⟩)
    have q1 : 0 < b1 := by
      have : (0 : Int) < (b1 : Int) := of_decide_eq_true q
      omega
    refine ⟨_, rfl, st, _, _, _, rfl, rfl, SqL.of h1, rfl, _, _, rfl, rfl, _, rfl, st, _, _, 2, rfl, rfl, h1, rfl, ?_⟩
    have eb : (b1 : Int) - 1 = ((b1 - 1 : Nat) : Int) := by omega
    have nne : nl ≠ st := by
      intro e
      rw [e, h1] at h2
      injection Option.some.inj h2 with e2
      cases ns with
      | nil => cases e2
      | cons a r =>
        injection e2 with e3
        cases e3
    have g2 : Gd st nl H (upd H1 st (.lst [.ref nl, .int j, .int ((b1 - 1 : Nat) : Int)])) (b1 - 1) := ⟨SameB.upd g1.sb rfl, ns, j, upd_same, by rw [upd_ne nne]; exact h2, h3⟩
    have hx2 : (upd H1 st (.lst [.ref nl, .int j, .int ((b1 - 1 : Nat) : Int)])) l = some (.lst xs) := by rw [upd_ne lst]; exact hx
    have rx2 := RpAll.at (tups_lst (o := .lst [.ref nl, .int j, .int ((b1 - 1 : Nat) : Int)]) h1) _ _ rx
    rw [← eb] at g2 hx2 rx2
    refine ⟨_, rfl, .inl ⟨rfl, _, SqL.of hx2⟩, _, rfl, _, rfl, _, rfl, st, nl, c, gc, lc, np, b1 - 1, d, rfl, hd, g2.gs, hc.keep g g2.sb, hg, hlc, hnp, by omega, fun s v b' H3 g3 oks ds hbs rs => ?_⟩
    have hx3 : H3 l = some (.lst xs) := g3.sb _ _ hx2 lst
    have g13 := g2.trans g3
    have t3 := g2.gs.tups g3.sb
    have hlen : xs.length ≤ 1000 := by
      have z1 := rx.len
      rw [bdD_len] at z1
      have z2 := len_bdS bd
      omega
    refine ⟨l, _, _, rfl, rfl, hx3, smallL (by omega), ?_⟩
    refine ⟨_, bd ++ [s], xs ++ [v], b', rfl, g13.mut g hl, upd_same, ?_, bdOk_snoc ok oks, bdP_snoc dp ds, ?_⟩
    · rw [bdD_snoc]
      exact RpAll.at (tups_lst hx3) _ _ (RpAll.snoc (RpAll.at t3 _ _ rx2) rs)
    · rw [bdS_snoc]
      omega
  · rintro σ H1 ⟨x, bd, xs, b1, rfl, g1, hx, rx, ok, dp, hb1⟩
    refine ⟨_, rfl, l, _, rfl, .inl ⟨SqL.of hx, fun t ht => ?_⟩⟩
    exact k bd _ b1 _ (g1.new ht) ok dp hb1 (Rp.new ht rx)
abbrev n__law_statement : List Str := ["_law_state", "_law_counts", "_law_deep", "_law_form", "_law_variable_here", "_law_test"]
theorem sc__law_statement : FnScope n__law_statement ["_law_state", "_law_counts", "_law_deep"] (defScope s__law_statement) := ⟨rfl, rfl, rfl, by decide +kernel, rfl, by decide +kernel, by decide +kernel⟩
theorem ok_statement {n m : Nat} (T : Env K mg) (hm : 5 ≤ m) (c__law_pick : Cal P w K mg base 1 "_law_pick" sp_pick []) (c__law_variable : Cal P w K mg base 2 "_law_variable" sp_variable []) (c__law_expression : Cal P w K mg base 5 "_law_expression" (sp_expression 3) [])
    (c__law_body : Cal P w K mg base m "_law_body" (sp_body n) []) : Cal P w K mg base (m + 1) "_law_statement" (sp_statement (n + 1)) [] := by
  obtain ⟨fd, F⟩ := T.F__law_statement
  refine cal_by F T.g__law_statement (F.bindsN fun _ _ _ _ _ _ us hl => match us, hl with | [_, _, _], _ => rfl) sc__law_statement (fun vs H Q E h => ?_) (fun cdv A outer s H vs Q E hr h => ?_)
  · obtain ⟨st, nl, c, gc, lc, np, b, d, rfl, _⟩ := h
    rfl
  obtain ⟨st, nl, c, gc, lc, np, b, d, rfl, hd, g, hc, hg, hlc, hnp, hb, k⟩ := h
  refine ⟨_, pss_cons (ps_set (i := 3) sc__law_statement.nd rfl (Or.inl rfl) (pe_c c__law_pick hr (by omega) rfl (pa_cons (pv 0) (pa_cons pe_int pa_nil))))
      (pss_cons (ps_set (i := 4) sc__law_statement.nd rfl (Or.inl rfl) (pe_c c__law_variable hr (by omega) rfl (pa_cons (pv 0) (pa_cons (pv 1) pa_nil))))
      (pss_cons (ps_if (PW.pt (pw_and (pt_cmpR op_lt (pv 3) pe_int (nomark _)) (pw_and1 (pt_cmpR op_notN (pv 4) pe_non (nomark _)))))
        (pss_one (ps_ret (pe_tup (pa_cons pe_str (pa_cons (pv 4) (pa_cons (pe_c c__law_expression hr (by omega) rfl (pa_cons (pv 0) (pa_cons (pv 1) (pa_cons pe_int pa_nil)))) pa_nil))))))
        pss_nil)
      (pss_cons (ps_if (PW.pt (pw_and (pt_cmpR op_eq (pv 3) pe_int (nomark _)) (pw_and1 (pt_cmpR op_notN (pv 4) pe_non (nomark _)))))
        (pss_one (ps_ret (pe_tup (pa_cons pe_str (pa_cons (pv 4) pa_nil)))))
        pss_nil)
      (pss_cons (ps_if (pt_cmpR op_lt (pv 3) pe_int (nomark _))
        (pss_one (ps_ret (pe_tup (pa_cons pe_str (pa_cons (pe_c c__law_pick hr (by omega) rfl (pa_cons (pv 0) (pa_cons (pe_ix ix_list (pv 1) pe_int (fun _ _ => rfl)) pa_nil))) pa_nil)))))
        pss_nil)
      (pss_cons (ps_if (PW.pt (pw_or (pt_cmpR op_eq (pv 3) pe_int (nomark _)) (pw_or1 (PW.pt (pw_and (pt_cmpR op_eq (pv 2) pe_int (nomark _)) (pw_and1 (pt_cmpR op_gt (pv 3) pe_int (nomark _))))))))
        (pss_one (ps_ret (pe_tup (pa_cons pe_str (pa_cons (pe_ix ix_list (pe_lst (pa_cons pe_int (pa_cons pe_int (pa_cons pe_int (pa_cons pe_int (pa_cons pe_int (pa_cons pe_int (pa_cons pe_int (pa_cons pe_int pa_nil))))))))) (pe_c c__law_pick hr (by omega) rfl (pa_cons (pv 0) (pa_cons pe_int pa_nil))) (fun _ _ => rfl)) pa_nil)))))
        pss_nil)
      (pss_cons (ps_if (pt_cmpR op_eq (pv 3) pe_int (nomark _))
        (pss_one (ps_ret (pe_tup (pa_cons pe_str pa_nil))))
        pss_nil)
      (pss_cons (ps_if (pt_cmpR op_eq (pv 3) pe_int (nomark _))
        (pss_cons (ps_set (i := 5) sc__law_statement.nd rfl (Or.inl rfl) (pe_c c__law_expression hr (by omega) rfl (pa_cons (pv 0) (pa_cons (pv 1) (pa_cons pe_int pa_nil)))))
        (pss_one (ps_ret (pe_tup (pa_cons pe_str (pa_cons (pv 5) (pa_cons (pe_c c__law_body hr (by omega) rfl (pa_cons (pv 0) (pa_cons (pv 1) (pa_cons (pe_op op_sub (pv 2) pe_int) (pa_cons pe_int pa_nil))))) (pa_cons (pe_c c__law_body hr (by omega) rfl (pa_cons (pv 0) (pa_cons (pv 1) (pa_cons (pe_op op_sub (pv 2) pe_int) (pa_cons pe_int pa_nil))))) pa_nil))))))))
        pss_nil)
      (pss_cons (ps_if (pt_cmpR op_eq (pv 3) pe_int (nomark _))
        (pss_one (ps_ret (pe_tup (pa_cons pe_str (pa_cons (pe_c c__law_body hr (by omega) rfl (pa_cons (pv 0) (pa_cons (pv 1) (pa_cons (pe_op op_sub (pv 2) pe_int) (pa_cons pe_int pa_nil))))) (pa_cons (pe_c c__law_body hr (by omega) rfl (pa_cons (pv 0) (pa_cons (pv 1) (pa_cons (pe_op op_sub (pv 2) pe_int) (pa_cons pe_int pa_nil))))) pa_nil))))))
        pss_nil)
      (pss_cons (ps_if (pt_cmpR op_eq (pv 3) pe_int (nomark _))
        (pss_one (ps_ret (pe_tup (pa_cons pe_str (pa_cons (pe_c c__law_expression hr (by omega) rfl (pa_cons (pv 0) (pa_cons (pv 1) (pa_cons pe_int pa_nil)))) (pa_cons (pe_c c__law_body hr (by omega) rfl (pa_cons (pv 0) (pa_cons (pv 1) (pa_cons (pe_op op_sub (pv 2) pe_int) (pa_cons pe_int pa_nil))))) pa_nil))))))
        pss_nil)
      (pss_one (ps_ret (pe_tup (pa_cons pe_str (pa_cons (pe_c c__law_body hr (by omega) rfl (pa_cons (pv 0) (pa_cons (pv 1) (pa_cons (pe_op op_sub (pv 2) pe_int) (pa_cons pe_int pa_nil))))) pa_nil)))))))))))))), ?_⟩
  refine ⟨_, rfl, st, nl, 11, b, rfl, g, by decide, fun f H1 hf g1 => ?_⟩
  refine ⟨_, rfl, _, rfl, st, nl, c, gc, lc, np, b, rfl, g1.gs, hc.keep g g1.sb, hg, hlc, fun o v H2 g2 ro => ?_⟩
  have g12 := g1.trans g2
  have hcn : ∀ {H3 : Hp} {b3 : Nat}, Gd st nl H H3 b3 → Cn H3 c gc lc np := fun g3 => hc.keep g g3.sb
  -- an expression
  have part : ∀ {H3 : Hp} {b3 : Nat}, Gd st nl H H3 b3 → ∀ (Q1 : VK), (∀ (e : Ex) (v : V) (H4 : Hp), Gd st nl H3 H4 b3 → e.ok gc lc → e.deep ≤ 2 → Rp H4 e.d v → Q1 v H4) → sp_expression 3 [.ref st, .ref c, .int 2] H3 Q1 C8.E0 :=
    fun {H3 b3} g3 Q1 q => ⟨st, nl, c, gc, lc, np, b3, 2, rfl, by decide, g3.gs, hcn g3, hg, hlc, q⟩
  -- a body
  have bpart : ∀ {H3 : Hp} {b3 : Nat} (m : Nat), Gd st nl H H3 b3 → b3 ≤ b → ¬ d = 0 → m ≤ 100 → ∀ (Q1 : VK), (∀ (bd : List Sm) (v : V) (b' : Nat) (H4 : Hp), Gd st nl H3 H4 b' → bdOk gc lc np bd → bdP bd ≤ d - 1 → b' + bdS bd = b3 → Rp H4 (.tuple (bdD bd)) v → Q1 v H4) →
      sp_body n [.ref st, .ref c, .int ((d : Int) - 1), .int m] H3 Q1 C8.E0 := by
    intro H3 b3 m g3 hb3 h0 h100 Q1 q
    have e : (d : Int) - 1 = ((d - 1 : Nat) : Int) := by omega
    rw [e]
    exact ⟨st, nl, c, gc, lc, np, b3, d - 1, m, rfl, by omega, g3.gs, hcn g3, hg, hlc, hnp, h100, by omega, q⟩
  have two : (2 : Nat) ≤ sizeLine := by decide
  dsimp only [gName, tSeq]
  refine if_and (b1 := decide ((f : Int) < 2)) (b2 := !decide (v = V.non)) (fun Q q => ⟨_, rfl, _, _, rfl, rfl, _, rfl, q⟩) (fun Q q => ⟨_, rfl, rfl, _, rfl, q⟩) ?_
  refine ite2 (fun c1 => ?_) (fun c1 => ?_)
  · cases o with
    | none =>
      rw [(show v = V.non from ro)] at c1
      simp at c1
    | some x =>
      refine ⟨_, rfl, _, rfl, _, rfl, part g12 _ fun e u H3 g3 ok dp re => ⟨(by show 3 ≤ sizeLine; decide), fun p hp => ?_⟩⟩
      exact k (.set x e) _ b _ ((g12.trans g3).new hp) ⟨ro.1, ok, dp⟩ (Nat.zero_le _) rfl (Rp.new hp (.cons rfl (.cons (Rp.at (g12.gs.tups g3.sb) _ _ ro.2) (.one re))))
  dsimp only [tNext]
  refine if_and (b1 := decide (V.int (f : Int) = V.int 2)) (b2 := !decide (v = V.non)) (fun Q q => ⟨_, rfl, rfl, _, rfl, q⟩) (fun Q q => ⟨_, rfl, rfl, _, rfl, q⟩) ?_
  refine ite2 (fun c2 => ?_) (fun c2 => ?_)
  · cases o with
    | none =>
      rw [(show v = V.non from ro)] at c2
      simp at c2
    | some x =>
      refine ⟨_, rfl, two, fun p hp => ?_⟩
      exact k (.free x) _ b _ (g12.new hp) ro.1 (Nat.zero_le _) rfl (Rp.new hp (.cons rfl (.one ro.2)))
  dsimp only [tNext]
  refine ⟨_, rfl, _, _, rfl, rfl, _, rfl, ?_⟩
  refine ite2 (fun _ => ?_) (fun c3 => ?_)
  · refine ⟨_, rfl, _, rfl, c, _, _, _, rfl, rfl, SqL.of (hcn g12), rfl, st, nl, _, b, rfl, g12.gs, by omega, fun r H3 hr3 g3 => ⟨two, fun p hp => ?_⟩⟩
    exact k (.call r) _ b _ ((g12.trans g3).new hp) (by show r < np; omega) (Nat.zero_le _) rfl (Rp.new hp (.cons rfl (.one rfl)))
  have f5 : 5 ≤ f := by
    have : ¬ (f : Int) < 5 := fun z => c3 (decide_eq_true z)
    omega
  dsimp only [tNext]
  refine if_or (b1 := decide (V.int (f : Int) = V.int 5)) (b2 := decide (V.int (d : Int) = V.int 0) && decide ((6 : Int) < f)) (fun Q q => ⟨_, rfl, rfl, _, rfl, q⟩) (ans_and2 (fun Q q => ⟨_, rfl, rfl, _, rfl, q⟩) (fun Q q => ⟨_, rfl, _, _, rfl, rfl, _, rfl, q⟩)) ?_
  refine ite2 (fun _ => ?_) (fun c4 => ?_)
  · refine ⟨(by show 8 ≤ sizeLine; decide), fun l hl => ?_⟩
    have gl := g12.new (o := .lst [V.int 0, V.int 1, V.int 2, V.int 0, V.int 1, V.int 2, V.int 10, V.int 999]) hl
    refine ⟨_, rfl, st, nl, 8, b, rfl, gl.gs, by decide, fun r H3 hr3 g3 => ?_⟩
    have hl3 : H3 l = some (.lst [V.int 0, V.int 1, V.int 2, V.int 0, V.int 1, V.int 2, V.int 10, V.int 999]) := g3.sb _ _ upd_same (g12.gs.ne hl)
    have wd : ∃ z : Nat, z ≤ 999 ∧ atI [V.int 0, V.int 1, V.int 2, V.int 0, V.int 1, V.int 2, V.int 10, V.int 999] (r : Int) = some (.int z) := by
      have : r = 0 ∨ r = 1 ∨ r = 2 ∨ r = 3 ∨ r = 4 ∨ r = 5 ∨ r = 6 ∨ r = 7 := by omega
      rcases this with rfl | rfl | rfl | rfl | rfl | rfl | rfl | rfl
      · exact ⟨0, by decide, rfl⟩
      · exact ⟨1, by decide, rfl⟩
      · exact ⟨2, by decide, rfl⟩
      · exact ⟨0, by decide, rfl⟩
      · exact ⟨1, by decide, rfl⟩
      · exact ⟨2, by decide, rfl⟩
      · exact ⟨10, by decide, rfl⟩
      · exact ⟨999, by decide, rfl⟩
    obtain ⟨z, hz, ez⟩ := wd
    refine ⟨l, _, _, _, rfl, rfl, SqL.of hl3, ez, two, fun p hp => ?_⟩
    exact k (.pass z) _ b _ ((gl.trans g3).new hp) hz (Nat.zero_le _) rfl (Rp.new hp (.cons rfl (.one rfl)))
  have f6 : 6 ≤ f := by
    have : ¬ f = 5 := fun z => c4 (by rw [z]; rfl)
    omega
  dsimp only [tNext]
  refine ⟨_, rfl, rfl, _, rfl, ?_⟩
  refine ite2 (fun _ => ?_) (fun c5 => ?_)
  · refine ⟨(by show 1 ≤ sizeLine; decide), fun p hp => ?_⟩
    exact k .ret _ b _ (g12.new hp) trivial (Nat.zero_le _) rfl (Rp.new hp (.one rfl))
  have f7 : 7 ≤ f := by
    have : ¬ f = 6 := fun z => c5 (by rw [z]; rfl)
    omega
  have d0 : ¬ d = 0 := fun z => c4 (by
    have e1 : decide (V.int (d : Int) = V.int 0) = true := by rw [z]; rfl
    have e2 : decide ((6 : Int) < f) = true := decide_eq_true (by omega)
    rw [e1, e2]
    simp)
  dsimp only [tNext]
  refine ⟨_, rfl, rfl, _, rfl, ?_⟩
  refine ite2 (fun _ => ?_) (fun c6 => ?_)
  · -- if
    refine ⟨_, rfl, _, rfl, part g12 _ fun e u H3 g3 ok dp re => ?_⟩
    have g13 := g12.trans g3
    refine ⟨_, rfl, _, rfl, _, rfl, _, rfl, _, _, rfl, rfl, bpart 2 g13 (Nat.le_refl _) d0 (by decide) _ fun a va b4 H4 g4 oka dpa sa ra => ?_⟩
    refine ⟨_, rfl, _, rfl, _, rfl, _, _, rfl, rfl, bpart 2 (g13.trans g4) (by omega) d0 (by decide) _ fun a2 va2 b5 H5 g5 oka2 dpa2 sa2 ra2 => ⟨(by show 4 ≤ sizeLine; decide), fun p hp => ?_⟩⟩
    refine k (.ite e a a2) _ b5 _ (((g13.trans g4).trans g5).new hp) ⟨⟨ok, dp⟩, oka, oka2⟩ (by simp only [Sm.deep]; omega) (by simp only [Sm.size]; omega) ?_
    exact Rp.new hp (.cons rfl (.cons (Rp.at (g13.gs.tups (g4.trans g5).sb) _ _ re) (.cons (Rp.at (g4.gs.tups g5.sb) _ _ ra) (.one ra2))))
  have f8 : 8 ≤ f := by
    have : ¬ f = 7 := fun z => c6 (by rw [z]; rfl)
    omega
  dsimp only [tNext]
  refine ⟨_, rfl, rfl, _, rfl, ?_⟩
  refine ite2 (fun _ => ?_) (fun c7 => ?_)
  · -- either
    refine ⟨_, rfl, _, rfl, _, rfl, _, _, rfl, rfl, bpart 2 g12 (Nat.le_refl _) d0 (by decide) _ fun a va b4 H4 g4 oka dpa sa ra => ?_⟩
    refine ⟨_, rfl, _, rfl, _, rfl, _, _, rfl, rfl, bpart 2 (g12.trans g4) (by omega) d0 (by decide) _ fun a2 va2 b5 H5 g5 oka2 dpa2 sa2 ra2 => ⟨(by show 3 ≤ sizeLine; decide), fun p hp => ?_⟩⟩
    refine k (.ei a a2) _ b5 _ (((g12.trans g4).trans g5).new hp) ⟨oka, oka2⟩ (by simp only [Sm.deep]; omega) (by simp only [Sm.size]; omega) ?_
    exact Rp.new hp (.cons rfl (.cons (Rp.at (g4.gs.tups g5.sb) _ _ ra) (.one ra2)))
  have f9 : 9 ≤ f := by
    have : ¬ f = 8 := fun z => c7 (by rw [z]; rfl)
    omega
  dsimp only [tNext]
  refine ⟨_, rfl, rfl, _, rfl, ?_⟩
  refine ite2 (fun _ => ?_) (fun c8 => ?_)
  · -- while
    refine ⟨_, rfl, _, rfl, part g12 _ fun e u H3 g3 ok dp re => ?_⟩
    have g13 := g12.trans g3
    refine ⟨_, rfl, _, rfl, _, rfl, _, _, rfl, rfl, bpart 3 g13 (Nat.le_refl _) d0 (by decide) _ fun a va b4 H4 g4 oka dpa sa ra => ⟨(by show 3 ≤ sizeLine; decide), fun p hp => ?_⟩⟩
    refine k (.wh e a) _ b4 _ ((g13.trans g4).new hp) ⟨⟨ok, dp⟩, oka⟩ (by simp only [Sm.deep]; omega) (by simp only [Sm.size]; omega) ?_
    exact Rp.new hp (.cons rfl (.cons (Rp.at (g13.gs.tups g4.sb) _ _ re) (.one ra)))
  · -- repeat
    refine ⟨_, rfl, _, rfl, _, rfl, _, _, rfl, rfl, bpart 3 g12 (Nat.le_refl _) d0 (by decide) _ fun a va b4 H4 g4 oka dpa sa ra => ⟨(by show 2 ≤ sizeLine; decide), fun p hp => ?_⟩⟩
    refine k (.rp a) _ b4 _ ((g12.trans g4).new hp) oka (by simp only [Sm.deep]; omega) (by simp only [Sm.size]; omega) ?_
    exact Rp.new hp (.cons rfl (.one ra))
end
end Pr
/-! The law's own making of a program: the program. -/
namespace Pr
open PySem PySem.Spec PyProof.Rows L2
open C8 (Cal Met Mak pe_c pe_mk pe_mt pe_mt0)
/-- the law's program: a list of the number of globals and the list of procedures -/
def LawProg (H : Hp) (a : Addr) (P : Prog) : Prop := ∃ (l : Addr) (xs : List V), H a = some (.lst [.int P.gc, .ref l]) ∧ H l = some (.lst xs) ∧ RpAll H (P.procs.map procD) xs
theorem LawProg.same {H H' : Hp} {a : Addr} {P : Prog} (h : LawProg H a P) (e : Same H H') : LawProg H' a P := by
  obtain ⟨l, xs, h1, h2, h3⟩ := h
  exact ⟨l, xs, e _ _ h1, e _ _ h2, RpAll.at e.tups _ _ h3⟩
section
variable {P : Program} {w : World} {K : PySem.W.Frag} {mg : Str → Option Value} {base : Heap}
def sp_program : Sp := fun vs H Q _ => ∃ (nl : Addr) (ns : List Int), vs = [.ref nl, .int 8, .bl false] ∧ H nl = some (.lst (ns.map V.int)) ∧ ns.length = 31 ∧
  ∀ (G : Prog) (a : Addr) (H' : Hp), Same H H' → G.Ok → LawProg H' a G → Q (.ref a) H'
abbrev n__law_program : List Str := ["_law_numbers_here", "_law_budget", "_law_large", "_law_state", "_law_wide", "_law_many", "_law_narrows", "_law_procedures", "_law_k", "_law_narrow"]
theorem sc__law_program : FnScope n__law_program ["_law_numbers_here", "_law_budget", "_law_large"] (defScope s__law_program) := ⟨rfl, rfl, rfl, by decide +kernel, rfl, by decide +kernel, by decide +kernel⟩
theorem ok_program {m : Nat} (T : Env K mg) (hm : 1 ≤ m) (c__law_pick : Cal P w K mg base 1 "_law_pick" sp_pick []) (c__law_body : Cal P w K mg base m "_law_body" (sp_body 3) []) : Cal P w K mg base (m + 1) "_law_program" sp_program [] := by
  obtain ⟨fd, F⟩ := T.F__law_program
  refine cal_by F T.g__law_program (F.bindsN fun _ _ _ _ _ _ us hl => match us, hl with | [_, _, _], _ => rfl) sc__law_program (fun vs H Q E h => ?_) (fun cdv A outer s H vs Q E hr h => ?_)
  · obtain ⟨nl, ns, rfl, _⟩ := h
    rfl
  obtain ⟨nl, ns, rfl, hnl, h31, k⟩ := h
  refine ⟨_, pss_cons (ps_set (i := 3) sc__law_program.nd rfl (Or.inl rfl) (pe_lst (pa_cons (pv 0) (pa_cons pe_int (pa_cons (pv 1) pa_nil)))))
      (pss_cons (ps_set (i := 4) sc__law_program.nd rfl (Or.inl rfl) (pe_c c__law_pick hr (by omega) rfl (pa_cons (pv 3) (pa_cons pe_int pa_nil))))
      (pss_cons (ps_set (i := 5) sc__law_program.nd rfl (Or.inl rfl) (pe_op op_add (pe_c c__law_pick hr (by omega) rfl (pa_cons (pv 3) (pa_cons pe_int pa_nil))) pe_int))
      (pss_cons (ps_set (i := 6) sc__law_program.nd rfl (Or.inl rfl) pe_int)
      (C8.pss_cut (ps_if (PW.pt (pw_and (pt_val (pv 2)) (pw_and1 (pt_cmpR op_eq (pe_op op_mod (pe_op op_fdiv (pe_ix ix_list (pv 0) pe_int (fun _ _ => rfl)) pe_int) pe_int) pe_int (nomark _)))))
        (pss_cons (ps_set (i := 4) sc__law_program.nd rfl (Or.inl rfl) (pe_c c__law_pick hr (by omega) rfl (pa_cons (pv 3) (pa_cons pe_int pa_nil))))
        (pss_cons (ps_set (i := 5) sc__law_program.nd rfl (Or.inl rfl) (pe_op op_add (pe_c c__law_pick hr (by omega) rfl (pa_cons (pv 3) (pa_cons pe_int pa_nil))) pe_int))
        (pss_cons (ps_set (i := 6) sc__law_program.nd rfl (Or.inl rfl) pe_int)
        (pss_one ps_never))))
        pss_nil)
      (pss_cons (ps_set (i := 7) sc__law_program.nd rfl (Or.inl rfl) (pe_lst pa_nil))
      (pss_cons (ps_for PassesOwn.never rfl (pi_range1 rfl T.f_range (pa_cons (pv 5) pa_nil)) (pg_name (i := 8) sc__law_program.nd rfl (Or.inl rfl))
        (pss_cons (ps_set (i := 9) sc__law_program.nd rfl (Or.inl rfl) (pe_c c__law_pick hr (by omega) rfl (pa_cons (pv 3) (pa_cons (pv 6) pa_nil))))
        (pss_one (ps_expr (pe_bm PySem.F.plainAttrs_list PySem.F.slot_list_append PySem.F.type_list_append mt_append (pv 7) (pa_cons (pe_tup (pa_cons (pv 9) (pa_cons (pe_c c__law_body hr (by omega) rfl (pa_cons (pv 3) (pa_cons (pe_lst (pa_cons (pv 4) (pa_cons (pv 9) (pa_cons (pv 5) pa_nil)))) (pa_cons pe_int (pa_cons pe_int pa_nil))))) pa_nil))) pa_nil))))))
      (pss_one (ps_ret (pe_lst (pa_cons (pv 4) (pa_cons (pv 7) pa_nil))))))))))), ?_⟩
  refine ⟨_, rfl, _, rfl, (by show 3 ≤ sizeLine; decide), fun st hst => ?_⟩
  have g0 : Gs (upd H st (.lst [.ref nl, .int 0, .int 8])) st nl 8 := ⟨ns, 0, upd_same, by rw [upd_ne (ne_of_none hnl hst)]; exact hnl, h31⟩
  have back : ∀ {H' : Hp}, SameB (fun a => a = st) (upd H st (.lst [.ref nl, .int 0, .int 8])) H' → Same H H' := fun {H'} e b o h => e b o (same_upd hst _ _ h) (ne_of_none h hst)
  refine ⟨_, rfl, st, nl, 3, 8, rfl, g0, by decide, fun wd H1 hwd g1 => ?_⟩
  refine ⟨_, rfl, st, nl, 2, 8, rfl, g1.gs, by decide, fun mn H2 hmn g2 => ⟨_, _, rfl, rfl, ?_⟩⟩
  have g12 := g1.trans g2
  refine ⟨fun σ' H' => H' = H2 ∧ σ' = [some (.ref nl), some (.int 8), some (.bl false), some (.ref st), some (.int wd), some (.int ((mn : Int) + 1)), some (.int 2), none, none, none], ⟨_, rfl, _, rfl, iteF (iteF ⟨rfl, rfl⟩)⟩, ?_⟩
  rintro σ' H' ⟨rfl, rfl⟩
  refine ⟨Nat.zero_le _, fun l hl => ?_⟩
  have lst := g12.gs.ne hl
  have hl0 : (upd H st (.lst [.ref nl, .int 0, .int 8])) l = none := by
    cases q : (upd H st (.lst [.ref nl, .int 0, .int 8])) l with
    | none => rfl
    | some o =>
      rw [g12.sb _ _ q lst] at hl
      cases hl
  refine ⟨_, rfl, _, rfl, by omega, by omega, ?_⟩
  refine for_range (n := ((mn : Int) + 1).toNat) (fun i σ H3 => ∃ (x y : Option V) (ps : List (Nat × List Sm)) (xs : List V) (b1 : Nat), σ = [some (.ref nl), some (.int 8), some (.bl false), some (.ref st), some (.int wd), some (.int ((mn : Int) + 1)), some (.int 2), some (.ref l), x, y] ∧
      Gd st nl (upd H st (.lst [.ref nl, .int 0, .int 8])) H3 b1 ∧ H3 l = some (.lst xs) ∧ RpAll H3 (ps.map procD) xs ∧ ps.length = i ∧ (∀ p ∈ ps, p.1 ≤ 1 ∧ bdOk wd p.1 (mn + 1) p.2 ∧ bdP p.2 ≤ 3) ∧ b1 + (ps.map fun p => bdS p.2).sum = 8)
    ⟨_, _, [], [], 8, rfl, g12.new hl, upd_same, rfl, rfl, (fun _ z => nomatch z), rfl⟩ ?_ ?_
  · rintro i σ H3 hi ⟨x, y, ps, xs, b1, rfl, g3, hx, rx, hlen, hps, hb1⟩
    refine ⟨_, rfl, _, rfl, st, nl, 2, b1, rfl, g3.gs, by decide, fun lc H4 hlc g4 => ?_⟩
    have hx4 := g4.sb _ _ hx lst
    have g34 := g3.trans g4
    refine ⟨_, rfl, .inl ⟨rfl, _, SqL.of hx4⟩, _, rfl, _, rfl, _, rfl, _, rfl, _, rfl, (by show 3 ≤ sizeLine; decide), fun cn hcn => ?_⟩
    have g5 := g34.new (o := .lst [V.int wd, V.int lc, V.int ((mn : Int) + 1)]) hcn
    refine ⟨st, nl, cn, wd, lc, mn + 1, b1, 2, 4, rfl, by decide, g5.gs, upd_same, by omega, by omega, by omega, by decide, by omega, fun bd v b' H6 g6 ok dp hbs rb => ⟨(by show 2 ≤ sizeLine; decide), fun t ht => ?_⟩⟩
    have hx6 : H6 l = some (.lst xs) := g6.sb _ _ (same_upd hcn _ _ hx4) lst
    have g36 := g5.trans g6
    have g7 := g36.new (o := .tup [V.int lc, v]) ht
    have hxl : xs.length = i := by rw [rx.len, List.length_map, hlen]
    have hx7 : (upd H6 t (.tup [V.int lc, v])) l = some (.lst xs) := same_upd ht _ _ hx6
    refine ⟨l, _, _, rfl, rfl, hx7, smallL (by omega), ?_⟩
    have rx4 := RpAll.at (g3.gs.tups g4.sb) _ _ rx
    have rx5 := RpAll.at (same_upd (o := .lst [V.int wd, V.int lc, V.int ((mn : Int) + 1)]) hcn).tups _ _ rx4
    have rx6 := RpAll.at (g5.gs.tups g6.sb) _ _ rx5
    have rp : Rp (upd H6 t (.tup [V.int lc, v])) (procD (lc, bd)) (.ref t) := Rp.new ht (.cons rfl (.one rb))
    refine ⟨_, _, ps ++ [(lc, bd)], xs ++ [.ref t], b', rfl, g7.mut g0 hl0, upd_same, ?_, by rw [List.length_append, hlen]; rfl, fun p hp => ?_, ?_⟩
    · rw [List.map_append]
      exact RpAll.at (tups_lst hx7) _ _ (RpAll.snoc (RpAll.at (same_upd ht).tups _ _ rx6) rp)
    · rcases List.mem_append.mp hp with hp | hp
      · exact hps p hp
      · rw [List.mem_singleton.mp hp]
        exact ⟨by show lc ≤ 1; omega, ok, by show bdP bd ≤ 3; omega⟩
    · rw [List.map_append, List.sum_append]
      simp only [List.map_cons, List.map_nil, List.sum_cons, List.sum_nil]
      omega
  · rintro σ H3 ⟨x, y, ps, xs, b1, rfl, g3, hx, rx, hlen, hps, hb1⟩
    have hlen2 : ps.length = mn + 1 := by rw [hlen]; omega
    refine ⟨_, rfl, _, rfl, (by show 2 ≤ sizeLine; decide), fun a ha => ?_⟩
    refine k ⟨wd, ps⟩ a _ ((back g3.sb).trans (same_upd ha)) ⟨by show wd ≤ 2; omega, by show 1 ≤ ps.length; omega, by show ps.length ≤ 2; omega, fun p hp => (hps p hp).1, fun p hp => ?_, fun p hp => (hps p hp).2.2, by show (ps.map fun p => bdS p.2).sum ≤ 8; omega⟩ ⟨l, xs, upd_same, same_upd ha _ _ hx, RpAll.at (same_upd ha).tups _ _ rx⟩
    show bdOk wd p.1 ps.length p.2
    rw [hlen2]
    exact (hps p hp).2.1
/-- all of it -/
theorem ok_gen (T : Env K mg) : Cal P w K mg base 1 "_law_numbers" (sp_numbers K) [] ∧ Cal P w K mg base 12 "_law_program" sp_program [] := by
  have p1 := ok_pick (P := P) (w := w) (base := base) T
  have p2 := ok_variable (P := P) (w := w) (base := base) T p1
  have e0 : Cal P w K mg base 2 "_law_expression" (sp_expression 0) [] := by
    obtain ⟨fd, F⟩ := T.F__law_expression
    exact Cal_mono (Cal_none F T.g__law_expression (F.bindsN (ps := ["_law_state", "_law_counts", "_law_deep"]) fun _ _ _ _ _ _ us hl => match us, hl with | [_, _, _], _ => rfl) expression_no) (by decide)
  have e3 := ok_expression T p1 p2 (ok_expression T p1 p2 (ok_expression T p1 p2 e0))
  have b0 : Cal P w K mg base 5 "_law_body" (sp_body 0) [] := by
    obtain ⟨fd, F⟩ := T.F__law_body
    exact Cal_mono (Cal_none F T.g__law_body (F.bindsN (ps := ["_law_state", "_law_counts", "_law_deep", "_law_most"]) fun _ _ _ _ _ _ us hl => match us, hl with | [_, _, _, _], _ => rfl) body_no) (by decide)
  have b1 := ok_body T (by decide) p1 (ok_statement T (by decide) p1 p2 e3 b0)
  have b2 := ok_body T (by decide) p1 (ok_statement T (by decide) p1 p2 e3 b1)
  have b3 := ok_body T (by decide) p1 (ok_statement T (by decide) p1 p2 e3 b2)
  exact ⟨ok_numbers T, ok_program T (by decide) p1 b3⟩
end
end Pr
/-! The law's own table of points. -/
namespace Pr
open PySem PySem.Spec PyProof.Rows L2
open C8 (Cal Met Mak pe_c pe_mk pe_mt pe_mt0)
theorem if_t {c : Bool} {A B : Prop} (h : c = true) (a : A) : if c = true then A else B := by
  rw [h]
  exact iteT a
theorem if_f {c : Bool} {A B : Prop} (h : c = false) (b : B) : if c = true then A else B := by
  rw [h]
  exact iteF b
theorem at0 {v : V} {r : List V} : atI (v :: r) 0 = some v := atI_nat (j := 0) rfl
section
variable {P : Program} {w : World} {K : PySem.W.Frag} {mg : Str → Option Value} {base : Heap}
/-! ### _law_bodies -/
def sp_bodies : Sp := fun vs H Q _ => ∃ (s : Sm) (v : V), vs = [v] ∧ Rp H s.d v ∧ ∀ (p : Addr) (xs : List V) (H' : Hp), Same H H' → H p = none → H' p = some (.lst xs) → RpAll H' (s.bods.map fun b => .tuple (bdD b)) xs → Q (.ref p) H'
abbrev n__law_bodies : List Str := ["_law_statement_here"]
theorem sc__law_bodies : FnScope n__law_bodies ["_law_statement_here"] (defScope s__law_bodies) := ⟨rfl, rfl, rfl, by decide +kernel, rfl, by decide +kernel, by decide +kernel⟩
theorem ok_bodies (T : Env K mg) : Cal P w K mg base 1 "_law_bodies" sp_bodies [] := by
  obtain ⟨fd, F⟩ := T.F__law_bodies
  refine cal_by F T.g__law_bodies (F.bindsN fun _ _ _ _ _ _ us hl => match us, hl with | [_], _ => rfl) sc__law_bodies (fun vs H Q E h => ?_) (fun cdv A outer s H vs Q E hr h => ?_)
  · obtain ⟨s, v, rfl, _⟩ := h
    rfl
  obtain ⟨s, v, rfl, hv, k⟩ := h
  refine ⟨_, pss_cons (ps_if (pt_cmpR op_eq (pe_ix ix_tup (pv 0) pe_int (fun _ _ => rfl)) pe_str (nomark _))
        (pss_one (ps_ret (pe_lst (pa_cons (pe_ix ix_tup (pv 0) pe_int (fun _ _ => rfl)) (pa_cons (pe_ix ix_tup (pv 0) pe_int (fun _ _ => rfl)) pa_nil)))))
        pss_nil)
      (pss_cons (ps_if (pt_cmpR op_eq (pe_ix ix_tup (pv 0) pe_int (fun _ _ => rfl)) pe_str (nomark _))
        (pss_one (ps_ret (pe_lst (pa_cons (pe_ix ix_tup (pv 0) pe_int (fun _ _ => rfl)) (pa_cons (pe_ix ix_tup (pv 0) pe_int (fun _ _ => rfl)) pa_nil)))))
        pss_nil)
      (pss_cons (ps_if (pt_cmpR op_in_seq (pe_ix ix_tup (pv 0) pe_int (fun _ _ => rfl)) (pe_lst (pa_cons pe_str (pa_cons pe_str pa_nil))) (by rfl))
        (pss_one (ps_ret (pe_lst (pa_cons (pe_ix ix_tup (pv 0) (pe_op op_sub (pe_callB call_len_seq (by rfl) T.f_len (by decide +kernel) (pa_cons (pv 0) pa_nil)) pe_int) (fun _ _ => rfl)) pa_nil))))
        pss_nil)
      (pss_one (ps_ret (pe_lst pa_nil))))), ?_⟩
  have fin : ∀ (xs : List V) (H1 : Hp), Same H H1 → RpAll H (s.bods.map fun b => .tuple (bdD b)) xs → ∀ p, H1 p = none → Q (.ref p) (upd H1 p (.lst xs)) := fun xs H1 sm rx p hp =>
    k p xs _ (sm.new hp) (sm.free hp) upd_same (RpAll.at (sm.new hp).tups _ _ rx)
  cases s with
  | ite e a b =>
    obtain ⟨q, xs, rfl, hq, _, _, rfl, rfl, ve, _, rfl, re, va, _, rfl, ra, vb, _, rfl, rb, rfl⟩ := hv
    refine ⟨_, rfl, q, _, _, _, rfl, rfl, SqT.of hq, rfl, rfl, _, rfl, if_t (by decide +kernel) ?_⟩
    exact ⟨_, rfl, q, _, _, _, rfl, rfl, SqT.of hq, rfl, _, rfl, q, _, _, _, rfl, rfl, SqT.of hq, rfl, (by show 2 ≤ sizeLine; decide), fin _ _ (Same.refl H) (.cons ra (.one rb))⟩
  | ei a b =>
    obtain ⟨q, xs, rfl, hq, _, _, rfl, rfl, va, _, rfl, ra, vb, _, rfl, rb, rfl⟩ := hv
    refine ⟨_, rfl, q, _, _, _, rfl, rfl, SqT.of hq, rfl, rfl, _, rfl, if_f (by decide +kernel) ?_⟩
    refine ⟨_, rfl, q, _, _, _, rfl, rfl, SqT.of hq, rfl, rfl, _, rfl, if_t (by decide +kernel) ?_⟩
    exact ⟨_, rfl, q, _, _, _, rfl, rfl, SqT.of hq, rfl, _, rfl, q, _, _, _, rfl, rfl, SqT.of hq, rfl, (by show 2 ≤ sizeLine; decide), fin _ _ (Same.refl H) (.cons ra (.one rb))⟩
  | wh e a =>
    obtain ⟨q, xs, rfl, hq, _, _, rfl, rfl, ve, _, rfl, re, va, _, rfl, ra, rfl⟩ := hv
    refine ⟨_, rfl, q, _, _, _, rfl, rfl, SqT.of hq, rfl, rfl, _, rfl, if_f (by decide +kernel) ?_⟩
    refine ⟨_, rfl, q, _, _, _, rfl, rfl, SqT.of hq, rfl, rfl, _, rfl, if_f (by decide +kernel) ?_⟩
    refine ⟨_, rfl, q, _, _, _, rfl, rfl, SqT.of hq, rfl, (by show 2 ≤ sizeLine; decide), fun l hl => ?_⟩
    have hq1 := same_upd (o := .lst [V.str "while", V.str "repeat"]) hl _ _ hq
    refine ⟨l, _, rfl, .inl (SqL.of upd_same), rfl, rfl, _, rfl, if_t (by decide +kernel) ?_⟩
    refine ⟨_, rfl, _, rfl, q, _, rfl, .inr (SqT.of hq1), _, _, rfl, rfl, q, _, _, _, rfl, rfl, SqT.of hq1, rfl, (by show 1 ≤ sizeLine; decide), fin _ _ (same_upd hl) (.one ra)⟩
  | rp a =>
    obtain ⟨q, xs, rfl, hq, _, _, rfl, rfl, va, _, rfl, ra, rfl⟩ := hv
    refine ⟨_, rfl, q, _, _, _, rfl, rfl, SqT.of hq, rfl, rfl, _, rfl, if_f (by decide +kernel) ?_⟩
    refine ⟨_, rfl, q, _, _, _, rfl, rfl, SqT.of hq, rfl, rfl, _, rfl, if_f (by decide +kernel) ?_⟩
    refine ⟨_, rfl, q, _, _, _, rfl, rfl, SqT.of hq, rfl, (by show 2 ≤ sizeLine; decide), fun l hl => ?_⟩
    have hq1 := same_upd (o := .lst [V.str "while", V.str "repeat"]) hl _ _ hq
    refine ⟨l, _, rfl, .inl (SqL.of upd_same), rfl, rfl, _, rfl, if_t (by decide +kernel) ?_⟩
    refine ⟨_, rfl, _, rfl, q, _, rfl, .inr (SqT.of hq1), _, _, rfl, rfl, q, _, _, _, rfl, rfl, SqT.of hq1, rfl, (by show 1 ≤ sizeLine; decide), fin _ _ (same_upd hl) (.one ra)⟩
  | set x e =>
    obtain ⟨q, xs, rfl, hq, _, _, rfl, rfl, _⟩ := hv
    refine ⟨_, rfl, q, _, _, _, rfl, rfl, SqT.of hq, at0, rfl, _, rfl, if_f (by decide +kernel) ?_⟩
    refine ⟨_, rfl, q, _, _, _, rfl, rfl, SqT.of hq, at0, rfl, _, rfl, if_f (by decide +kernel) ?_⟩
    refine ⟨_, rfl, q, _, _, _, rfl, rfl, SqT.of hq, at0, (by show 2 ≤ sizeLine; decide), fun l hl => ?_⟩
    refine ⟨l, _, rfl, .inl (SqL.of upd_same), rfl, rfl, _, rfl, if_f (by decide +kernel) ⟨Nat.zero_le _, fin _ _ (same_upd hl) rfl⟩⟩
  | free x =>
    obtain ⟨q, xs, rfl, hq, _, _, rfl, rfl, _⟩ := hv
    refine ⟨_, rfl, q, _, _, _, rfl, rfl, SqT.of hq, at0, rfl, _, rfl, if_f (by decide +kernel) ?_⟩
    refine ⟨_, rfl, q, _, _, _, rfl, rfl, SqT.of hq, at0, rfl, _, rfl, if_f (by decide +kernel) ?_⟩
    refine ⟨_, rfl, q, _, _, _, rfl, rfl, SqT.of hq, at0, (by show 2 ≤ sizeLine; decide), fun l hl => ?_⟩
    refine ⟨l, _, rfl, .inl (SqL.of upd_same), rfl, rfl, _, rfl, if_f (by decide +kernel) ⟨Nat.zero_le _, fin _ _ (same_upd hl) rfl⟩⟩
  | call x =>
    obtain ⟨q, xs, rfl, hq, _, _, rfl, rfl, _⟩ := hv
    refine ⟨_, rfl, q, _, _, _, rfl, rfl, SqT.of hq, at0, rfl, _, rfl, if_f (by decide +kernel) ?_⟩
    refine ⟨_, rfl, q, _, _, _, rfl, rfl, SqT.of hq, at0, rfl, _, rfl, if_f (by decide +kernel) ?_⟩
    refine ⟨_, rfl, q, _, _, _, rfl, rfl, SqT.of hq, at0, (by show 2 ≤ sizeLine; decide), fun l hl => ?_⟩
    refine ⟨l, _, rfl, .inl (SqL.of upd_same), rfl, rfl, _, rfl, if_f (by decide +kernel) ⟨Nat.zero_le _, fin _ _ (same_upd hl) rfl⟩⟩
  | ret =>
    obtain ⟨q, xs, rfl, hq, _, _, rfl, rfl, _⟩ := hv
    refine ⟨_, rfl, q, _, _, _, rfl, rfl, SqT.of hq, at0, rfl, _, rfl, if_f (by decide +kernel) ?_⟩
    refine ⟨_, rfl, q, _, _, _, rfl, rfl, SqT.of hq, at0, rfl, _, rfl, if_f (by decide +kernel) ?_⟩
    refine ⟨_, rfl, q, _, _, _, rfl, rfl, SqT.of hq, at0, (by show 2 ≤ sizeLine; decide), fun l hl => ?_⟩
    refine ⟨l, _, rfl, .inl (SqL.of upd_same), rfl, rfl, _, rfl, if_f (by decide +kernel) ⟨Nat.zero_le _, fin _ _ (same_upd hl) rfl⟩⟩
  | pass x =>
    obtain ⟨q, xs, rfl, hq, _, _, rfl, rfl, _⟩ := hv
    refine ⟨_, rfl, q, _, _, _, rfl, rfl, SqT.of hq, at0, rfl, _, rfl, if_f (by decide +kernel) ?_⟩
    refine ⟨_, rfl, q, _, _, _, rfl, rfl, SqT.of hq, at0, rfl, _, rfl, if_f (by decide +kernel) ?_⟩
    refine ⟨_, rfl, q, _, _, _, rfl, rfl, SqT.of hq, at0, (by show 2 ≤ sizeLine; decide), fun l hl => ?_⟩
    refine ⟨l, _, rfl, .inl (SqL.of upd_same), rfl, rfl, _, rfl, if_f (by decide +kernel) ⟨Nat.zero_le _, fin _ _ (same_upd hl) rfl⟩⟩
/-! ### _law_size -/
def sp_size (n : Nat) : Sp := fun vs H Q _ => ∃ (b : List Sm) (v : V), vs = [v] ∧ Rp H (.tuple (bdD b)) v ∧ bdP b < n ∧ ∀ H', Same H H' → Q (.int (bdS b)) H'
theorem size_no : ∀ vs H Q E, ¬ sp_size 0 vs H Q E := fun vs H Q E ⟨_, _, _, _, h, _⟩ => Nat.not_lt_zero _ h
abbrev n__law_size : List Str := ["_law_body_here", "_law_total", "_law_statement_here", "_law_inner"]
theorem sc__law_size : FnScope n__law_size ["_law_body_here"] (defScope s__law_size) := ⟨rfl, rfl, rfl, by decide +kernel, rfl, by decide +kernel, by decide +kernel⟩
theorem ok_size {n m : Nat} (T : Env K mg) (hm : 1 ≤ m) (c__law_bodies : Cal P w K mg base 1 "_law_bodies" sp_bodies []) (c__law_size : Cal P w K mg base m "_law_size" (sp_size n) []) : Cal P w K mg base (m + 1) "_law_size" (sp_size (n + 1)) [] := by
  obtain ⟨fd, F⟩ := T.F__law_size
  refine cal_by F T.g__law_size (F.bindsN fun _ _ _ _ _ _ us hl => match us, hl with | [_], _ => rfl) sc__law_size (fun vs H Q E h => ?_) (fun cdv A outer s H vs Q E hr h => ?_)
  · obtain ⟨b, v, rfl, _⟩ := h
    rfl
  obtain ⟨b, v, rfl, hv, hd, k⟩ := h
  refine ⟨_, pss_cons (ps_set (i := 1) sc__law_size.nd rfl (Or.inl rfl) pe_int)
      (pss_cons (ps_for PassesOwn.never rfl (pi_tup (pv 0)) (pg_name (i := 2) sc__law_size.nd rfl (Or.inl rfl))
        (pss_one (ps_set (i := 1) sc__law_size.nd rfl (Or.inl rfl) (pe_op op_add (pe_op op_add (pv 1) pe_int) (pe_callB (cr_sum rfl) (by rfl) T.f_sum (by decide +kernel) (pa_cons (pe_lc (own := [("_law_inner", 3)]) (g := gName 3) (by rfl) sc__law_size.nd (pi_list (pe_c c__law_bodies hr (by omega) rfl (pa_cons (pv 2) pa_nil))) (blkOk_by (own := [("_law_inner", 3)]) (N := n__law_size) (sc := defScope s__law_size) (by decide +kernel)) (fun _ _ _ _ _ => (pg_name (i := 3) sc__law_size.nd rfl (Or.inl rfl))) (fun _ _ _ _ _ => pts_nil) (fun _ _ _ _ _ => (pe_c c__law_size hr (by omega) rfl (pa_cons (pv 3) pa_nil)))) pa_nil))))))
      (pss_one (ps_ret (pv 1)))), ?_⟩
  obtain ⟨q, xs, rfl, hq, hx⟩ := hv
  have hlen : xs.length = b.length := by rw [hx.len, bdD_len]
  refine ⟨_, rfl, q, rfl, ⟨_, SqT.of hq⟩, for_it (walk_tup (K := K) (a := q) (xs := xs)) (fun i σ H1 => ∃ (x y : Option V), σ = [some (.ref q), some (.int (bdS (b.take i))), x, y] ∧ Same H H1) ⟨_, _, rfl, Same.refl H⟩ (fun i σ H1 _ ⟨_, _, _, sm⟩ => SqT.of (sm _ _ hq)) ?_ ?_⟩
  · rintro i x σ H1 _ hi ⟨x0, y0, rfl, sm⟩ ⟨rfl, hxi⟩
    obtain ⟨d, hdi, rd⟩ := hx.getV hxi
    rw [bdD_map, List.getElem?_map] at hdi
    obtain ⟨s, hs, rfl⟩ := Option.map_eq_some_iff.mp hdi
    have ds : s.deep < n + 1 := Nat.lt_of_le_of_lt (bdP_mem.mp (Nat.le_refl _) s (List.mem_of_getElem? hs)) hd
    refine ⟨_, rfl, _, _, rfl, rfl, _, rfl, s, x, rfl, Rp.at sm.tups _ _ rd, fun l ys H2 sm2 hl0 hl hy => ⟨l, rfl, ⟨_, SqL.of hl⟩, fun D hD => ?_⟩⟩
    have hyl : ys.length = s.bods.length := by rw [hy.len, List.length_map]
    have small2 := s.len_bods
    refine lc_it (walk_list (K := K) (a := l) (xs := ys)) (fun j H3 => Same H2 H3 ∧ H3 D = some (.lst ((s.bods.take j).map fun c => V.int (bdS c)))) ⟨same_upd hD, upd_same⟩ (fun j H3 _ z => SqL.of (z.1 _ _ hl)) ?_ ?_
    · rintro j y H3 _ hj ⟨sm3, hD3⟩ ⟨rfl, hyj⟩
      obtain ⟨d, hdj, rdj⟩ := hy.getV hyj
      rw [List.getElem?_map] at hdj
      obtain ⟨c, hc, rfl⟩ := Option.map_eq_some_iff.mp hdj
      have dc := Sm.deep_bods (List.mem_of_getElem? hc)
      refine ⟨rfl, ?_⟩
      dsimp only [tYes]
      refine iteT ?_
      refine ⟨_, rfl, c, y, rfl, Rp.at sm3.tups _ _ rdj, by omega, fun H4 sm4 => ⟨_, sm4 _ _ hD3, smallL (by rw [List.length_map, List.length_take]; omega), (sm3.trans sm4).mut hD, ?_⟩⟩
      rw [upd_same, List.take_add_one, hc, List.map_append]
      rfl
    · rintro H3 ⟨sm3, hD3⟩
      rw [hyl, List.take_length] at hD3
      have e : (s.bods.map fun c => V.int (bdS c)) = (s.bods.map fun c => (bdS c : Int)).map V.int := by rw [List.map_map]; rfl
      rw [e] at hD3
      refine ⟨D, _, rfl, SqL.of hD3, _, _, rfl, rfl, some x, y0, ?_, ((sm.trans sm2).trans sm3)⟩
      have e2 : (bdS (b.take i) : Int) + 1 + (s.bods.map fun c => (bdS c : Int)).sum = ((bdS (b.take (i + 1)) : Nat) : Int) := by
        rw [bdS_take hs, Sm.size_bods]
        have : ∀ l : List (List Sm), (l.map fun c => (bdS c : Int)).sum = ((l.map bdS).sum : Nat) := by
          intro l
          induction l with
          | nil => rfl
          | cons a r ih => rw [List.map_cons, List.sum_cons, ih, List.map_cons, List.sum_cons]; omega
        rw [this]
        omega
      show [some (V.ref q), some (V.int ((bdS (b.take i) : Int) + 1 + (s.bods.map fun c => (bdS c : Int)).sum)), some x, y0] = _
      rw [e2]
  · rintro σ H1 ⟨x0, y0, rfl, sm⟩
    refine ⟨_, rfl, ?_⟩
    rw [hlen, List.take_length]
    exact k H1 sm
/-! the same of a list of one statement -/
def sp_sizeL (n : Nat) : Sp := fun vs H Q _ => ∃ (s : Sm) (l : Addr) (v : V), vs = [.ref l] ∧ H l = some (.lst [v]) ∧ Rp H s.d v ∧ s.deep ≤ n ∧ ∀ H', Same H H' → Q (.int s.size) H'
theorem ok_sizeL {n m : Nat} (T : Env K mg) (hm : 1 ≤ m) (c__law_bodies : Cal P w K mg base 1 "_law_bodies" sp_bodies []) (c__law_size : Cal P w K mg base m "_law_size" (sp_size n) []) : Cal P w K mg base (m + 1) "_law_size" (sp_sizeL n) [] := by
  obtain ⟨fd, F⟩ := T.F__law_size
  refine cal_by F T.g__law_size (F.bindsN fun _ _ _ _ _ _ us hl => match us, hl with | [_], _ => rfl) sc__law_size (fun vs H Q E h => ?_) (fun cdv A outer s H vs Q E hr h => ?_)
  · obtain ⟨s, l, v, rfl, _⟩ := h
    rfl
  obtain ⟨s, q, v, rfl, hq, hv, hd, k⟩ := h
  refine ⟨_, pss_cons (ps_set (i := 1) sc__law_size.nd rfl (Or.inl rfl) pe_int)
      (pss_cons (ps_for PassesOwn.never rfl (pi_list (pv 0)) (pg_name (i := 2) sc__law_size.nd rfl (Or.inl rfl))
        (pss_one (ps_set (i := 1) sc__law_size.nd rfl (Or.inl rfl) (pe_op op_add (pe_op op_add (pv 1) pe_int) (pe_callB (cr_sum rfl) (by rfl) T.f_sum (by decide +kernel) (pa_cons (pe_lc (own := [("_law_inner", 3)]) (g := gName 3) (by rfl) sc__law_size.nd (pi_list (pe_c c__law_bodies hr (by omega) rfl (pa_cons (pv 2) pa_nil))) (blkOk_by (own := [("_law_inner", 3)]) (N := n__law_size) (sc := defScope s__law_size) (by decide +kernel)) (fun _ _ _ _ _ => (pg_name (i := 3) sc__law_size.nd rfl (Or.inl rfl))) (fun _ _ _ _ _ => pts_nil) (fun _ _ _ _ _ => (pe_c c__law_size hr (by omega) rfl (pa_cons (pv 3) pa_nil)))) pa_nil))))))
      (pss_one (ps_ret (pv 1)))), ?_⟩
  refine ⟨_, rfl, q, rfl, ⟨_, SqL.of hq⟩, for_it (walk_list (K := K) (a := q) (xs := [v])) (fun i σ H1 => ∃ (x y : Option V), σ = [some (.ref q), some (.int (if i = 0 then 0 else s.size)), x, y] ∧ Same H H1) ⟨_, _, rfl, Same.refl H⟩ (fun i σ H1 _ ⟨_, _, _, sm⟩ => SqL.of (sm _ _ hq)) ?_ ?_⟩
  · rintro i x σ H1 _ hi ⟨x0, y0, rfl, sm⟩ ⟨rfl, hxi⟩
    have i0 : i = 0 := by simpa using hi
    subst i0
    have ex : v = x := by simpa using hxi
    subst ex
    refine ⟨_, rfl, _, _, rfl, rfl, _, rfl, s, v, rfl, Rp.at sm.tups _ _ hv, fun l ys H2 sm2 hl0 hl hy => ⟨l, rfl, ⟨_, SqL.of hl⟩, fun D hD => ?_⟩⟩
    have hyl : ys.length = s.bods.length := by rw [hy.len, List.length_map]
    have small2 := s.len_bods
    refine lc_it (walk_list (K := K) (a := l) (xs := ys)) (fun j H3 => Same H2 H3 ∧ H3 D = some (.lst ((s.bods.take j).map fun c => V.int (bdS c)))) ⟨same_upd hD, upd_same⟩ (fun j H3 _ z => SqL.of (z.1 _ _ hl)) ?_ ?_
    · rintro j y H3 _ hj ⟨sm3, hD3⟩ ⟨rfl, hyj⟩
      obtain ⟨d, hdj, rdj⟩ := hy.getV hyj
      rw [List.getElem?_map] at hdj
      obtain ⟨c, hc, rfl⟩ := Option.map_eq_some_iff.mp hdj
      have dc := Sm.deep_bods (List.mem_of_getElem? hc)
      refine ⟨rfl, ?_⟩
      dsimp only [tYes]
      refine iteT ?_
      refine ⟨_, rfl, c, y, rfl, Rp.at sm3.tups _ _ rdj, by omega, fun H4 sm4 => ⟨_, sm4 _ _ hD3, smallL (by rw [List.length_map, List.length_take]; omega), (sm3.trans sm4).mut hD, ?_⟩⟩
      rw [upd_same, List.take_add_one, hc, List.map_append]
      rfl
    · rintro H3 ⟨sm3, hD3⟩
      rw [hyl, List.take_length] at hD3
      have e : (s.bods.map fun c => V.int (bdS c)) = (s.bods.map fun c => (bdS c : Int)).map V.int := by rw [List.map_map]; rfl
      rw [e] at hD3
      refine ⟨D, _, rfl, SqL.of hD3, _, _, rfl, rfl, some v, y0, ?_, ((sm.trans sm2).trans sm3)⟩
      have e2 : ((0 : Int) + 1 + (s.bods.map fun c => (bdS c : Int)).sum) = (s.size : Nat) := by
        rw [Sm.size_bods]
        have : ∀ l : List (List Sm), (l.map fun c => (bdS c : Int)).sum = ((l.map bdS).sum : Nat) := by
          intro l
          induction l with
          | nil => rfl
          | cons a r ih => rw [List.map_cons, List.sum_cons, ih, List.map_cons, List.sum_cons]; omega
        rw [this]
        omega
      show [some (V.ref q), some (V.int ((0 : Int) + 1 + (s.bods.map fun c => (bdS c : Int)).sum)), some v, y0] = _
      rw [e2]
      rfl
  · rintro σ H1 ⟨x0, y0, rfl, sm⟩
    exact ⟨_, rfl, k H1 sm⟩
end
end Pr
/-! The law's own table of points: filling it. -/
namespace Pr
open PySem PySem.Spec PyProof.Rows L2
open C8 (Cal Met Mak pe_c pe_mk pe_mt pe_mt0)
/-- one entry of the table; its lists stand at places of N -/
def PtAt (N : Addr → Prop) (H : Hp) (p : Pt) (v : V) : Prop := ∃ (a e : Addr) (sv fv : V), v = .ref a ∧ N a ∧ N e ∧ H a = some (.lst [.int p.proc, sv, fv, .ref e]) ∧ H e = some (.lst (p.ent.map fun n : Nat => V.int (n : Int))) ∧
  (match p.stm with | none => sv = .non | some s => Rp H s.d sv) ∧ (match p.fol with | none => fv = .non | some n => fv = .int n)
theorem PtAt.keep {N : Addr → Prop} {H H' : Hp} {p : Pt} {v : V} (h : PtAt N H p v) (n : ∀ b xs, N b → H b = some (.lst xs) → H' b = some (.lst xs)) (t : Tups H H') : PtAt N H' p v := by
  obtain ⟨a, en, sv, fv, rfl, n1, n2, h1, h2, h3, h4⟩ := h
  refine ⟨a, en, sv, fv, rfl, n1, n2, n _ _ n1 h1, n _ _ n2 h2, ?_, h4⟩
  cases q : p.stm with
  | none => rw [q] at h3; exact h3
  | some s => rw [q] at h3; exact Rp.at t _ _ h3
theorem PtAt.imp {N N' : Addr → Prop} {H : Hp} {p : Pt} {v : V} (h : PtAt N H p v) (n : ∀ a, N a → N' a) : PtAt N' H p v := by
  obtain ⟨a, en, sv, fv, rfl, n1, n2, h1⟩ := h
  exact ⟨a, en, sv, fv, rfl, n _ n1, n _ n2, h1⟩
theorem PtAt.ne {N : Addr → Prop} {H : Hp} {p : Pt} {v : V} {e : Addr} (h : PtAt N H p v) (n : H e = none) : PtAt (fun a => N a ∧ a ≠ e) H p v := by
  obtain ⟨a, en, sv, fv, rfl, n1, n2, h1, h2, h3⟩ := h
  exact ⟨a, en, sv, fv, rfl, ⟨n1, ne_of_none h1 n⟩, ⟨n2, ne_of_none h2 n⟩, h1, h2, h3⟩
theorem PtAt.same {N : Addr → Prop} {H H' : Hp} {p : Pt} {v : V} (h : PtAt N H p v) (e : Same H H') : PtAt N H' p v := h.keep (fun b xs _ z => e _ _ z) e.tups
theorem PtAt.updE {N : Addr → Prop} {H : Hp} {e : Addr} {xs ys : List V} {p : Pt} {v : V} (h : PtAt N H p v) (n : ¬ N e) (he : H e = some (.lst xs)) : PtAt N (upd H e (.lst ys)) p v :=
  h.keep (fun b zs nb z => by rw [upd_ne (fun q => n (by rw [← q]; exact nb))]; exact z) (tups_lst he)
/-- the dict at t with its pairs, changed from one heap to the next -/
structure Dg (t : Addr) (H H' : Hp) (kvs' : List (Key × V)) : Prop where
  sb : SameB (fun a => a = t) H H'
  dk : H' t = some (.dK kvs')
theorem Dg.tups {t : Addr} {H H' : Hp} {kvs kvs' : List (Key × V)} (h : H t = some (.dK kvs)) (d : Dg t H H' kvs') : Tups H H' := fun b ys hb => d.sb b _ hb fun z => by
  rw [z, h] at hb
  cases hb
theorem Dg.lst {t : Addr} {H H' : Hp} {kvs kvs' : List (Key × V)} (h : H t = some (.dK kvs)) (d : Dg t H H' kvs') {b : Addr} {xs : List V} (hb : H b = some (.lst xs)) : H' b = some (.lst xs) := d.sb b _ hb fun z => by
  rw [z, h] at hb
  cases hb
theorem Dg.free {t : Addr} {H H' : Hp} {kvs' : List (Key × V)} (d : Dg t H H' kvs') {b : Addr} (hb : H' b = none) : H b = none := by
  cases q : H b with
  | none => rfl
  | some o =>
    by_cases e : b = t
    · rw [e, d.dk] at hb
      cases hb
    · rw [d.sb _ _ q e] at hb
      cases hb
theorem Dg.pt {N : Addr → Prop} {t : Addr} {H H' : Hp} {kvs kvs' : List (Key × V)} {p : Pt} {v : V} (h : H t = some (.dK kvs)) (d : Dg t H H' kvs') (q : PtAt N H p v) : PtAt N H' p v :=
  q.keep (fun b xs _ hb => d.lst h hb) (d.tups h)
theorem Dg.put {t : Addr} {H H1 : Hp} {k1 k2 : List (Key × V)} (a : Dg t H H1 k1) : Dg t H (upd H1 t (.dK k2)) k2 := ⟨SameB.upd a.sb rfl, upd_same⟩
theorem Dg.refl {t : Addr} {H : Hp} {k : List (Key × V)} (h : H t = some (.dK k)) : Dg t H H k := ⟨Same.b (Same.refl H), h⟩
theorem Dg.trans {t : Addr} {H H1 H2 : Hp} {k1 k2 : List (Key × V)} (a : Dg t H H1 k1) (b : Dg t H1 H2 k2) : Dg t H H2 k2 := ⟨a.sb.trans b.sb, b.dk⟩
theorem Dg.same {t : Addr} {H H1 H2 : Hp} {k1 : List (Key × V)} (a : Dg t H H1 k1) (b : Same H1 H2) : Dg t H H2 k1 := ⟨a.sb.trans (Same.b b), b _ _ a.dk⟩
theorem Dg.mut {t l : Addr} {H H1 : Hp} {k0 k1 : List (Key × V)} {o : HO} (a : Dg t H H1 k1) (h0 : H t = some (.dK k0)) (h : H l = none) : Dg t H (upd H1 l o) k1 := ⟨SameB.none a.sb h, by rw [upd_ne (ne_of_none h0 h)]; exact a.dk⟩
/-- the points ps stand in the table from the place lo on, all else as in kvs -/
def Filled (N : Addr → Prop) (H : Hp) (kvs kvs' : List (Key × V)) (lo : Nat) (ps : List Pt) : Prop :=
  (∀ j p, ps[j]? = some p → ∃ v, valV kvs' (Sum.inl ((lo + j : Nat) : Int)) = some v ∧ PtAt N H p v) ∧
  (∀ z : Int, (z < lo ∨ (lo : Int) + ps.length ≤ z) → valV kvs' (Sum.inl z) = valV kvs (Sum.inl z)) ∧ kvs'.length ≤ kvs.length + ps.length
theorem Filled.nil {N : Addr → Prop} {H : Hp} {kvs : List (Key × V)} {lo : Nat} : Filled N H kvs kvs lo [] := ⟨fun j p h => by simp at h, fun _ _ => rfl, Nat.le_refl _⟩
theorem Filled.app {N : Addr → Prop} {H : Hp} {k0 k1 k2 : List (Key × V)} {lo : Nat} {ps qs : List Pt} (a : Filled N H k0 k1 lo ps) (b : Filled N H k1 k2 (lo + ps.length) qs) : Filled N H k0 k2 lo (ps ++ qs) := by
  refine ⟨fun j p h => ?_, fun z h => ?_, ?_⟩
  · by_cases hj : j < ps.length
    · rw [List.getElem?_append_left hj] at h
      obtain ⟨v, e1, e2⟩ := a.1 j p h
      exact ⟨v, by rw [b.2.1 _ (by omega)]; exact e1, e2⟩
    · rw [List.getElem?_append_right (by omega)] at h
      obtain ⟨v, e1, e2⟩ := b.1 _ p h
      have : lo + ps.length + (j - ps.length) = lo + j := by omega
      rw [this] at e1
      exact ⟨v, e1, e2⟩
  · rw [List.length_append] at h
    rw [b.2.1 z (by omega), a.2.1 z (by omega)]
  · rw [List.length_append]
    have := a.2.2
    have := b.2.2
    omega
theorem Filled.put {N : Addr → Prop} {H : Hp} {k0 k1 : List (Key × V)} {lo : Nat} {ps : List Pt} {p : Pt} {v : V} (a : Filled N H k0 k1 (lo + 1) ps) (h : PtAt N H p v) : Filled N H k0 (putK k1 (Sum.inl (lo : Int)) v) lo (p :: ps) := by
  refine ⟨fun j q hq => ?_, fun z hz => ?_, ?_⟩
  · rw [valV_put]
    cases j with
    | zero =>
      have e : p = q := by simpa using hq
      subst e
      exact ⟨v, if_pos (by simp), h⟩
    | succ j =>
      obtain ⟨u, e1, e2⟩ := a.1 j q (by simpa using hq)
      refine ⟨u, ?_, e2⟩
      rw [if_neg (by intro z; injection z with z; omega)]
      have : lo + 1 + j = lo + (j + 1) := by omega
      rw [this] at e1
      exact e1
  · rw [valV_put, if_neg (by intro e; injection e with e; rw [List.length_cons] at hz; omega)]
    exact a.2.1 z (by rw [List.length_cons] at hz; omega)
  · have := length_putK k1 (Sum.inl (lo : Int)) v
    have := a.2.2
    rw [List.length_cons]
    omega
theorem Filled.imp {N N' : Addr → Prop} {H H' : Hp} {k0 k1 : List (Key × V)} {lo : Nat} {ps : List Pt} (a : Filled N H k0 k1 lo ps) (h : ∀ p v, PtAt N H p v → PtAt N' H' p v) : Filled N' H' k0 k1 lo ps :=
  ⟨fun j p q => let ⟨v, e1, e2⟩ := a.1 j p q; ⟨v, e1, h p v e2⟩, a.2⟩
theorem ixN_last (n : Nat) : ixN (n + 1) (-(1 : Int)) = some n := by
  unfold ixN
  rw [if_neg (by omega), if_pos (by omega)]
  congr 1
  omega
section
variable {P : Program} {w : World} {K : PySem.W.Frag} {mg : Str → Option Value} {base : Heap}
def sp_fill (n : Nat) : Sp := fun vs H Q _ => ∃ (t : Addr) (b : List Sm) (v : V) (pr place behind : Nat) (kvs : List (Key × V)), vs = [.ref t, v, .int pr, .int place, .int behind] ∧ Rp H (.tuple (bdD b)) v ∧ bdP b < n ∧ H t = some (.dK kvs) ∧ kvs.length + bdS b ≤ 1000 ∧
  ∀ (kvs' : List (Key × V)) (H' : Hp), Dg t H H' kvs' → Filled (fun a => H a = none) H' kvs kvs' place (ptB pr place behind b) → Q .non H'
theorem fill_no : ∀ vs H Q E, ¬ sp_fill 0 vs H Q E := fun vs H Q E ⟨_, _, _, _, _, _, _, _, _, h, _⟩ => Nat.not_lt_zero _ h
abbrev n__law_fill : List Str := ["_law_table_here", "_law_body_here", "_law_procedure", "_law_place", "_law_behind", "_law_k", "_law_size_here", "_law_follows", "_law_back", "_law_entries", "_law_inside", "_law_inner"]
theorem sc__law_fill : FnScope n__law_fill ["_law_table_here", "_law_body_here", "_law_procedure", "_law_place", "_law_behind"] (defScope s__law_fill) := ⟨rfl, rfl, rfl, by decide +kernel, rfl, by decide +kernel, by decide +kernel⟩
theorem ok_fill {n m : Nat} (T : Env K mg) (hm : 10 ≤ m) (c__law_bodies : Cal P w K mg base 1 "_law_bodies" sp_bodies []) (c__law_size : Cal P w K mg base 9 "_law_size" (sp_size 8) []) (c_sizeL : Cal P w K mg base 10 "_law_size" (sp_sizeL 8) []) (h8 : n < 8)
    (c__law_fill : Cal P w K mg base m "_law_fill" (sp_fill n) []) : Cal P w K mg base (m + 1) "_law_fill" (sp_fill (n + 1)) [] := by
  obtain ⟨fd, F⟩ := T.F__law_fill
  refine cal_by F T.g__law_fill (F.bindsN fun _ _ _ _ _ _ us hl => match us, hl with | [_, _, _, _, _], _ => rfl) sc__law_fill (fun vs H Q E h => ?_) (fun cdv A outer s H vs Q E hr h => ?_)
  · obtain ⟨t, b, v, pr, place, behind, kvs, rfl, _⟩ := h
    rfl
  obtain ⟨t, b, v, pr, place, behind, kvs, rfl, hv, hd, ht, hsz, k⟩ := h
  refine ⟨_, pss_one (ps_for PassesOwn.never rfl (pi_range1 rfl T.f_range (pa_cons (pe_callB call_len_seq (by rfl) T.f_len (by decide +kernel) (pa_cons (pv 1) pa_nil)) pa_nil)) (pg_name (i := 5) sc__law_fill.nd rfl (Or.inl rfl))
        (pss_cons (ps_set (i := 6) sc__law_fill.nd rfl (Or.inl rfl) (pe_c c_sizeL hr (by omega) rfl (pa_cons (pe_lst (pa_cons (pe_ix ix_tup (pv 1) (pv 5) (fun _ _ => rfl)) pa_nil)) pa_nil)))
        (pss_cons (ps_set (i := 7) sc__law_fill.nd rfl (Or.inl rfl) (pv 4))
        (C8.pss_cut (ps_if (pt_cmpR op_lt (pe_op op_add (pv 5) pe_int) (pe_callB call_len_seq (by rfl) T.f_len (by decide +kernel) (pa_cons (pv 1) pa_nil)) (nomark _))
          (pss_one (ps_set (i := 7) sc__law_fill.nd rfl (Or.inl rfl) (pe_op op_add (pv 3) (pv 6))))
          pss_nil)
        (pss_cons (ps_set (i := 8) sc__law_fill.nd rfl (Or.inl rfl) (pv 7))
        (C8.pss_cut (ps_if (pt_cmpR op_in_seq (pe_ix ix_tup (pe_ix ix_tup (pv 1) (pv 5) (fun _ _ => rfl)) pe_int (fun _ _ => rfl)) (pe_lst (pa_cons pe_str (pa_cons pe_str pa_nil))) (by rfl))
          (pss_one (ps_set (i := 8) sc__law_fill.nd rfl (Or.inl rfl) (pv 3)))
          pss_nil)
        (pss_cons (ps_set (i := 9) sc__law_fill.nd rfl (Or.inl rfl) (pe_lst pa_nil))
        (pss_cons (ps_set (i := 10) sc__law_fill.nd rfl (Or.inl rfl) (pe_op op_add (pv 3) pe_int))
        (pss_cons (ps_for PassesOwn.never rfl (pi_list (pe_c c__law_bodies hr (by omega) rfl (pa_cons (pe_ix ix_tup (pv 1) (pv 5) (fun _ _ => rfl)) pa_nil))) (pg_name (i := 11) sc__law_fill.nd rfl (Or.inl rfl))
          (pss_cons (ps_expr (pe_bm PySem.F.plainAttrs_list PySem.F.slot_list_append PySem.F.type_list_append mt_append (pv 9) (pa_cons (pv 10) pa_nil)))
          (C8.pss_cut (ps_if (pt_cmpR op_eq (pe_callB call_len_seq (by rfl) T.f_len (by decide +kernel) (pa_cons (pv 11) pa_nil)) pe_int (nomark _))
            (pss_one (ps_asg (pv 8) (pg_sub (pv 9) (pe_un un_neg pe_int) set_list)))
            pss_nil)
          (pss_cons (ps_expr (pe_c c__law_fill hr (by omega) rfl (pa_cons (pv 0) (pa_cons (pv 11) (pa_cons (pv 2) (pa_cons (pv 10) (pa_cons (pv 8) pa_nil)))))))
          (pss_one (ps_set (i := 10) sc__law_fill.nd rfl (Or.inl rfl) (pe_op op_add (pv 10) (pe_c c__law_size hr (by omega) rfl (pa_cons (pv 11) pa_nil)))))))))
        (pss_cons (ps_dput (hu_of hr) (pv 0) (pv 3) (pe_lst (pa_cons (pv 2) (pa_cons (pe_ix ix_tup (pv 1) (pv 5) (fun _ _ => rfl)) (pa_cons (pv 7) (pa_cons (pv 9) pa_nil))))) rfl)
        (pss_one (ps_set (i := 3) sc__law_fill.nd rfl (Or.inl rfl) (pe_op op_add (pv 3) (pv 6)))))))))))))), ?_⟩
  obtain ⟨q, xs, rfl, hq, hx⟩ := hv
  have hlen : xs.length = b.length := by rw [hx.len, bdD_len]
  have hlb := len_bdS b
  refine ⟨_, rfl, q, xs, rfl, .inr (SqT.of hq), _, rfl, by omega, by omega, ?_⟩
  refine for_range (n := (xs.length : Int).toNat) (fun i σ H1 => ∃ (x5 x6 x7 x8 x9 x10 x11 : Option V) (ki : List (Key × V)), σ = [some (.ref t), some (.ref q), some (.int pr), some (.int ((place + bdS (b.take i) : Nat) : Int)), some (.int behind), x5, x6, x7, x8, x9, x10, x11] ∧
      Dg t H H1 ki ∧ Filled (fun a => H a = none) H1 kvs ki place (ptPre pr place behind b i))
    ⟨_, _, _, _, _, _, _, kvs, rfl, Dg.refl ht, by rw [ptPre_zero]; exact .nil⟩ ?_ ?_
  · rintro i σ H1 hi ⟨x5, x6, x7, x8, x9, x10, x11, ki, rfl, dg, fl⟩
    have hib : i < b.length := by omega
    obtain ⟨s, hs⟩ : ∃ s, b[i]? = some s := ⟨_, List.getElem?_eq_getElem hib⟩
    obtain ⟨sv, hsv, rs⟩ := hx.get (i := i) (d := s.d) (by rw [bdD_map, List.getElem?_map, hs]; rfl)
    have ei : (0 : Int) + (i : Nat) = ((i : Nat) : Int) := Int.zero_add _
    have ha : atI xs (0 + (i : Nat)) = some sv := by rw [ei]; exact atI_nat hsv
    have ds : s.deep < n + 1 := Nat.lt_of_le_of_lt (bdP_mem.mp (Nat.le_refl _) s (List.mem_of_getElem? hs)) hd
    have tq : ∀ {H2 : Hp} {k2 : List (Key × V)}, Dg t H H2 k2 → H2 q = some (.tup xs) := fun d => d.tups ht _ _ hq
    have ssz := s.size_pos
    have hbi := bdS_take hs
    have hbl := bdS_take_le b (i + 1)
    -- the size of the statement
    refine ⟨_, rfl, _, rfl, q, _, _, _, rfl, rfl, SqT.of (tq dg), ha, (by show 1 ≤ sizeLine; decide), fun l hl => ?_⟩
    have dg1 := dg.same (same_upd (o := .lst [sv]) hl)
    refine ⟨s, l, sv, rfl, upd_same, Rp.at (dg1.tups ht) _ _ rs, by omega, fun H2 sm2 => ?_⟩
    have dg2 := dg1.same sm2
    have fl2 : Filled (fun a => H a = none) H2 kvs ki place (ptPre pr place behind b i) := fl.imp fun p v z => (z.same (same_upd hl)).same sm2
    -- what follows it
    have efol : ∀ z : Nat, z = place + bdS (b.take i) + s.size → (if i + 1 < b.length then z else behind) = ent (place + bdS (b.take i) + s.size) behind (b.drop (i + 1)) := by
      rintro z rfl
      by_cases c : i + 1 < b.length
      · rw [if_pos c, List.drop_eq_getElem_cons c]
        rfl
      · rw [if_neg c, List.drop_eq_nil_of_le (by omega)]
        rfl
    generalize hf : ent (place + bdS (b.take i) + s.size) behind (b.drop (i + 1)) = fol at efol
    refine ⟨_, rfl, fun σ' H' => H' = H2 ∧ σ' = [some (.ref t), some (.ref q), some (.int pr), some (.int ((place + bdS (b.take i) : Nat) : Int)), some (.int behind), some (.int (0 + (i : Nat))), some (.int s.size), some (.int fol), x8, x9, x10, x11], ?_, ?_⟩
    · refine ⟨_, rfl, _, _, rfl, rfl, _, rfl, q, _, rfl, .inr (SqT.of (tq dg2)), _, _, rfl, rfl, _, rfl, ?_⟩
      refine ite2 (fun c => ?_) (fun c => ?_)
      · have c1 : (0 : Int) + (i : Nat) + 1 < (xs.length : Nat) := of_decide_eq_true c
        have e1 := efol _ rfl
        rw [if_pos (by omega)] at e1
        refine ⟨_, rfl, _, rfl, _, _, rfl, rfl, rfl, ?_⟩
        rw [← e1]
        show _ = [_, _, _, _, _, _, _, some (V.int (((place + bdS (b.take i) + s.size : Nat)) : Int)), _, _, _, _]
        rw [Int.natCast_add]
        rfl
      · have c1 : ¬ (0 : Int) + (i : Nat) + 1 < (xs.length : Nat) := fun z => c (decide_eq_true z)
        have e1 := efol _ rfl
        rw [if_neg (by omega)] at e1
        refine ⟨rfl, ?_⟩
        rw [← e1]
        rfl
    rintro σ' H' ⟨rfl, rfl⟩
    -- where its bodies lead back to
    obtain ⟨rest, hrest⟩ := s.d_tag
    have rs' : ∃ (u : Addr) (vs : List V), sv = .ref u ∧ H u = some (.tup (.str s.tag :: vs)) := by
      rw [hrest] at rs
      obtain ⟨u, vs, e, hu, v0, r0, e2, e3, _⟩ := rs
      exact ⟨u, r0, e, by rw [hu, e2, (show v0 = V.str s.tag from e3)]⟩
    obtain ⟨u, vs, rfl, hu⟩ := rs'
    have elp : inV (V.str s.tag) [V.str "while", V.str "repeat"] = s.loop := by cases s <;> simp only [Sm.tag, Sm.loop] <;> decide +kernel
    refine ⟨_, rfl, fun σ' H3 => Same H' H3 ∧ σ' = [some (.ref t), some (.ref q), some (.int pr), some (.int ((place + bdS (b.take i) : Nat) : Int)), some (.int behind), some (.int (0 + (i : Nat))), some (.int s.size), some (.int fol), some (.int (s.back (place + bdS (b.take i)) fol)), x9, x10, x11], ?_, ?_⟩
    · refine ⟨_, rfl, _, rfl, q, _, _, _, rfl, rfl, SqT.of (tq dg2), ha, u, _, _, _, rfl, rfl, SqT.of (dg2.tups ht _ _ hu), at0, (by show 2 ≤ sizeLine; decide), fun l3 hl3 => ?_⟩
      refine ⟨l3, _, rfl, .inl (SqL.of upd_same), rfl, rfl, _, rfl, ?_⟩
      show if inV (V.str s.tag) [V.str "while", V.str "repeat"] = true then _ else _
      rw [elp]
      refine ite2 (fun c => ?_) (fun c => ?_)
      · exact ⟨_, rfl, same_upd hl3, by unfold Sm.back; rw [if_pos c]; rfl⟩
      · exact ⟨same_upd hl3, by unfold Sm.back; rw [if_neg c]; rfl⟩
    rintro σ' H3 ⟨sm3, rfl⟩
    have dg3 := dg2.same sm3
    have fl3 : Filled (fun a => H a = none) H3 kvs ki place (ptPre pr place behind b i) := fl2.imp fun p v z => z.same sm3
    generalize hback : s.back (place + bdS (b.take i)) fol = back
    -- the entries
    refine ⟨Nat.zero_le _, fun e he => ?_⟩
    have dg4 := dg3.same (same_upd (o := .lst []) he)
    have he0 : H e = none := dg3.free he
    refine ⟨_, rfl, _, _, rfl, rfl, ?_⟩
    refine ⟨_, rfl, _, rfl, q, _, _, _, rfl, rfl, SqT.of (tq dg4), ha, s, _, rfl, Rp.at (dg4.tups ht) _ _ rs, fun l5 ys H5 sm5 hl50 hl5 hy => ⟨l5, rfl, ⟨_, SqL.of hl5⟩, ?_⟩⟩
    have dg5 := dg4.same sm5
    have he5 : H5 e = some (.lst []) := sm5 _ _ upd_same
    have hl5e : l5 ≠ e := fun z => by
      rw [z, upd_same] at hl50
      cases hl50
    have hyl : ys.length = s.bods.length := by rw [hy.len, List.length_map]
    have small2 := s.len_bods
    have fl5 : Filled (fun a => H a = none ∧ a ≠ e) H5 kvs ki place (ptPre pr place behind b i) := fl3.imp fun p v z => ((z.ne he).same (same_upd he)).same sm5
    have hkl := fl5.2.2
    rw [ptPre_len] at hkl
    have hbl2 := bdS_take_le b i
    refine for_it (walk_list (K := K) (a := l5) (xs := ys)) (fun j σ H6 => ∃ (x11 : Option V) (kj : List (Key × V)), σ = [some (.ref t), some (.ref q), some (.int pr), some (.int ((place + bdS (b.take i) : Nat) : Int)), some (.int behind), some (.int (0 + (i : Nat))), some (.int s.size), some (.int fol), some (.int back), some (.ref e), some (.int ((place + bdS (b.take i) + 1 + ((s.bods.take j).map bdS).sum : Nat) : Int)), x11] ∧
        Dg t H H6 kj ∧ H6 l5 = some (.lst ys) ∧ H6 e = some (.lst ((entsOf back (place + bdS (b.take i) + 1) (s.bods.take j)).map fun n : Nat => V.int (n : Int))) ∧
        Filled (fun a => H a = none ∧ a ≠ e) H6 ki kj (place + bdS (b.take i) + 1) (ptBs pr back (place + bdS (b.take i) + 1) (s.bods.take j)) ∧ Filled (fun a => H a = none ∧ a ≠ e) H6 kvs ki place (ptPre pr place behind b i) ∧ RpAll H6 (s.bods.map fun b => .tuple (bdD b)) ys)
      ⟨_, ki, rfl, dg5, hl5, he5, .nil, fl5, hy⟩ (fun j σ H6 _ ⟨_, _, _, _, z, _⟩ => SqL.of z) ?_ ?_
    · rintro j y σ _ H6 hj ⟨y11, kj, rfl, dg6, hl6, he6, fj, fp, ry⟩ ⟨rfl, hyj⟩
      obtain ⟨d, hdj, rdj⟩ := ry.getV hyj
      rw [List.getElem?_map] at hdj
      obtain ⟨c, hc, rfl⟩ := Option.map_eq_some_iff.mp hdj
      have dc := Sm.deep_bods (List.mem_of_getElem? hc)
      have eT : s.bods.take (j + 1) = s.bods.take j ++ [c] := by rw [List.take_add_one, hc]; rfl
      obtain ⟨uc, zs, rfl, huc, hzs⟩ := id rdj
      have hzl : zs.length = c.length := by rw [hzs.len, bdD_len]
      generalize hin : place + bdS (b.take i) + 1 + ((s.bods.take j).map bdS).sum = inside at *
      have eE : entsOf back (place + bdS (b.take i) + 1) (s.bods.take (j + 1)) = entsOf back (place + bdS (b.take i) + 1) (s.bods.take j) ++ [ent inside back c] := by rw [eT, entsOf_snoc, hin]
      have eP : ptBs pr back (place + bdS (b.take i) + 1) (s.bods.take (j + 1)) = ptBs pr back (place + bdS (b.take i) + 1) (s.bods.take j) ++ ptB pr inside back c := by rw [eT, ptBs_snoc, hin]
      have hsum : ((s.bods.take (j + 1)).map bdS).sum ≤ (s.bods.map bdS).sum := by
        conv => rhs; rw [← List.take_append_drop (j + 1) s.bods, List.map_append, List.sum_append]
        exact Nat.le_add_right _ _
      rw [eT, List.map_append, List.sum_append] at hsum
      simp only [List.map_cons, List.map_nil, List.sum_cons, List.sum_nil] at hsum
      have hss := s.size_bods
      have fjl := fj.2.2
      rw [ptBs_len] at fjl
      generalize hes : entsOf back (place + bdS (b.take i) + 1) (s.bods.take j) = es at *
      have hesl : es.length ≤ 2 := by rw [← hes, entsOf_len, List.length_take]; omega
      have ete : t ≠ e := fun z => by rw [z, he0] at ht; cases ht
      have mv : ∀ (o : List V), Dg t H (upd H6 e (.lst o)) kj ∧ (upd H6 e (.lst o)) l5 = some (.lst ys) ∧ Filled (fun a => H a = none ∧ a ≠ e) (upd H6 e (.lst o)) ki kj (place + bdS (b.take i) + 1) (ptBs pr back (place + bdS (b.take i) + 1) (s.bods.take j)) ∧
          Filled (fun a => H a = none ∧ a ≠ e) (upd H6 e (.lst o)) kvs ki place (ptPre pr place behind b i) ∧ RpAll (upd H6 e (.lst o)) (s.bods.map fun b => .tuple (bdD b)) ys ∧ Tups H6 (upd H6 e (.lst o)) := fun o =>
        ⟨dg6.mut ht he0, by rw [upd_ne hl5e]; exact hl6, fj.imp fun p v z => z.updE (fun n => n.2 rfl) he6, fp.imp fun p v z => z.updE (fun n => n.2 rfl) he6, RpAll.at (tups_lst he6) _ _ ry, tups_lst he6⟩
      -- its entry
      refine ⟨_, rfl, .inl ⟨rfl, _, SqL.of he6⟩, _, rfl, e, _, _, rfl, rfl, he6, smallL (by rw [List.length_map]; omega), ?_⟩
      refine ⟨fun σ' H' => H' = upd H6 e (.lst ((es ++ [ent inside back c]).map fun n : Nat => V.int (n : Int))) ∧ σ' = [some (.ref t), some (.ref q), some (.int pr), some (.int ((place + bdS (b.take i) : Nat) : Int)), some (.int behind), some (.int (0 + (i : Nat))), some (.int s.size), some (.int fol), some (.int back), some (.ref e), some (.int (inside : Int)), some (.ref uc)], ?_, ?_⟩
      · obtain ⟨_, _, _, _, _, tp⟩ := mv ((es.map fun n : Nat => V.int (n : Int)) ++ [V.int (inside : Int)])
        refine ⟨_, rfl, uc, zs, rfl, .inr (SqT.of (tp _ _ huc)), rfl, _, rfl, ?_⟩
        refine ite2 (fun z => ?_) (fun z => ?_)
        · have c0 : c = [] := by
            have e1 : V.int (zs.length : Nat) = V.int 0 := of_decide_eq_true z
            injection e1 with e1
            exact List.eq_nil_of_length_eq_zero (by omega)
          subst c0
          refine ⟨_, rfl, _, rfl, 1, rfl, e, _, _, es.length, rfl, rfl, upd_same, ?_, ?_⟩
          · rw [List.length_append, List.length_map]
            exact ixN_last _
          · refine ⟨?_, rfl⟩
            rw [upd_upd, List.map_append]
            congr 2
            rw [List.set_append_right _ _ (by simp)]
            simp [ent]
        · have c0 : c ≠ [] := fun e1 => z (by
            have : zs.length = 0 := by rw [hzl, e1]; rfl
            rw [this]
            rfl)
          refine ⟨?_, rfl⟩
          cases c with
          | nil => exact absurd rfl c0
          | cons a r => rw [List.map_append]; rfl
      rintro σ' H' ⟨rfl, rfl⟩
      obtain ⟨m1, m2, m3, m4, m5, tp⟩ := mv ((es ++ [ent inside back c]).map fun n : Nat => V.int (n : Int))
      generalize hH7 : upd H6 e (.lst ((es ++ [ent inside back c]).map fun n : Nat => V.int (n : Int))) = H7 at *
      have he7 : H7 e = some (.lst ((es ++ [ent inside back c]).map fun n : Nat => V.int (n : Int))) := by rw [← hH7]; exact upd_same
      have rdj7 := Rp.at tp _ _ rdj
      have hbsum : bdS c ≤ (s.bods.map bdS).sum := by omega
      refine ⟨_, rfl, _, rfl, _, rfl, _, rfl, _, rfl, t, c, .ref uc, pr, inside, back, kj, rfl, rdj7, by omega, m1.dk, by omega, fun k8 H8 dg8 fl8 => ?_⟩
      have d78 := m1.trans dg8
      refine ⟨_, rfl, _, rfl, c, .ref uc, rfl, Rp.at (dg8.tups m1.dk) _ _ rdj7, by omega, fun H9 sm9 => ⟨_, _, rfl, rfl, ?_⟩⟩
      have d79 := d78.same sm9
      have f8 : Filled (fun a => H a = none ∧ a ≠ e) H9 kj k8 inside (ptB pr inside back c) := fl8.imp fun p v z => (z.imp fun a (na : H7 a = none) => ⟨m1.free na, fun y => by
        rw [y, he7] at na
        cases na⟩).same sm9
      have f3 : Filled (fun a => H a = none ∧ a ≠ e) H9 ki kj (place + bdS (b.take i) + 1) (ptBs pr back (place + bdS (b.take i) + 1) (s.bods.take j)) := m3.imp fun p v z => (dg8.pt m1.dk z).same sm9
      have f4 : Filled (fun a => H a = none ∧ a ≠ e) H9 kvs ki place (ptPre pr place behind b i) := m4.imp fun p v z => (dg8.pt m1.dk z).same sm9
      refine ⟨some (.ref uc), k8, ?_, d79, sm9 _ _ (dg8.lst m1.dk m2), ?_, ?_, f4, RpAll.at sm9.tups _ _ (RpAll.at (dg8.tups m1.dk) _ _ m5)⟩
      · rw [eT, List.map_append, List.sum_append, ← Nat.add_assoc, hin]
        simp only [List.map_cons, List.map_nil, List.sum_cons, List.sum_nil, Nat.add_zero]
        rw [Int.natCast_add]
        rfl
      · rw [eE]
        exact sm9 _ _ (dg8.lst m1.dk he7)
      · rw [eP]
        refine f3.app ?_
        rw [ptBs_len, hin]
        exact f8
    · rintro σ H6 ⟨y11, kj, rfl, dg6, hl6, he6, fj, fp, ry⟩
      have eall : s.bods.take ys.length = s.bods := by rw [hyl, List.take_length]
      rw [eall] at he6 fj
      refine ⟨_, rfl, _, rfl, _, rfl, q, _, _, _, rfl, rfl, SqT.of (tq dg6), ha, _, rfl, _, rfl, (by show 4 ≤ sizeLine; decide), fun a hna => ?_⟩
      have fjl := fj.2.2
      rw [ptBs_len] at fjl
      have hss := s.size_bods
      refine ⟨_, rfl, _, rfl, t, _, rfl, DPut.k (k := Sum.inl _) (same_upd hna _ _ dg6.dk) (smallL (by omega)), ?_⟩
      have dg7 := dg6.same (same_upd (o := .lst [V.int pr, V.ref u, V.int fol, V.ref e]) hna)
      have dg8 := dg7.put (k2 := putK kj (Sum.inl ((place + bdS (b.take i) : Nat) : Int)) (V.ref a))
      have up : ∀ {N : Addr → Prop} {p : Pt} {v : V}, PtAt N (upd H6 a (.lst [V.int pr, V.ref u, V.int fol, V.ref e])) p v → PtAt N (upd (upd H6 a (.lst [V.int pr, V.ref u, V.int fol, V.ref e])) t (.dK (putK kj (Sum.inl ((place + bdS (b.take i) : Nat) : Int)) (V.ref a)))) p v := fun z =>
        Dg.pt dg7.dk (Dg.put (Dg.refl dg7.dk)) z
      refine ⟨_, rfl, _, rfl, _, _, rfl, rfl, ?_⟩
      refine ⟨some (.int (0 + (i : Nat))), some (.int s.size), some (.int fol), some (.int back), some (.ref e), some (.int ((place + bdS (b.take i) + 1 + ((s.bods.take ys.length).map bdS).sum : Nat) : Int)), y11, _, ?_, dg8, ?_⟩
      · rw [hbi, ← Nat.add_assoc, Int.natCast_add]
        rfl
      · rw [ptB_split pr b place behind i s hs, hf, ptS_eq, hback]
        refine Filled.app (fp.imp fun p v z => up ((z.same (same_upd hna)).imp fun _ n => n.1)) ?_
        rw [ptPre_len]
        refine Filled.put (fj.imp fun p v z => up ((z.same (same_upd hna)).imp fun _ n => n.1)) ?_
        refine up ⟨a, e, .ref u, .int fol, rfl, dg6.free hna, he0, upd_same, same_upd hna _ _ he6, ?_, rfl⟩
        exact Rp.at (dg7.tups ht) _ _ rs
  · rintro σ H1 ⟨x5, x6, x7, x8, x9, x10, x11, ki, rfl, dg, fl⟩
    have e : (xs.length : Int).toNat = b.length := by omega
    rw [e, ptPre_all] at fl
    exact k ki H1 dg fl
end
end Pr
/-! The law's own table of points: the whole table. -/
namespace Pr
open PySem PySem.Spec PyProof.Rows L2
open C8 (Cal Met Mak pe_c pe_mk pe_mt pe_mt0)
def psz (ps : List (Nat × List Sm)) : Nat := (ps.map fun p => bdS p.2 + 1).sum
theorem psz_snoc (ps : List (Nat × List Sm)) (p : Nat × List Sm) : psz (ps ++ [p]) = psz ps + (bdS p.2 + 1) := by simp [psz]
theorem ptP_snoc : ∀ (ps : List (Nat × List Sm)) (k pl : Nat) (p : Nat × List Sm), ptP k pl (ps ++ [p]) = ptP k pl ps ++ (ptB (k + ps.length) (pl + psz ps) (pl + psz ps + bdS p.2) p.2 ++ [⟨k + ps.length, none, none, []⟩])
  | [], k, pl, p => by simp [ptP, psz]
  | a :: r, k, pl, p => by
    have ih := ptP_snoc r (k + 1) (pl + bdS a.2 + 1) p
    simp only [List.cons_append, ptP, ih]
    have e1 : k + 1 + r.length = k + (a :: r).length := by rw [List.length_cons]; omega
    have e2 : pl + bdS a.2 + 1 + psz r = pl + psz (a :: r) := by simp only [psz, List.map_cons, List.sum_cons]; omega
    rw [e1, e2]
    simp
theorem begs_snoc : ∀ (ps : List (Nat × List Sm)) (pl : Nat) (p : Nat × List Sm), begs pl (ps ++ [p]) = begs pl ps ++ [pl + psz ps]
  | [], pl, p => by simp [begs, psz]
  | a :: r, pl, p => by
    have ih := begs_snoc r (pl + bdS a.2 + 1) p
    simp only [List.cons_append, begs, ih]
    have e2 : pl + bdS a.2 + 1 + psz r = pl + psz (a :: r) := by simp only [psz, List.map_cons, List.sum_cons]; omega
    rw [e2]
theorem ptP_len2 (k pl : Nat) (ps : List (Nat × List Sm)) : (ptP k pl ps).length = psz ps := by
  rw [ptP_len]
  induction ps with
  | nil => rfl
  | cons a r ih => simp only [psz, List.map_cons, List.sum_cons, List.length_cons] at ih ⊢; omega
theorem psz_take (ps : List (Nat × List Sm)) (i : Nat) : psz (ps.take i) ≤ psz ps := by
  unfold psz
  conv => rhs; rw [← List.take_append_drop i ps, List.map_append, List.sum_append]
  exact Nat.le_add_right _ _
theorem Prog.Ok.psz {G : Prog} (h : G.Ok) : psz G.procs ≤ 10 := by
  have e := ptP_len 0 0 G.procs
  rw [ptP_len2] at e
  have := h.size
  have := h.n2
  omega
/-- what the table says of the whole program -/
def Told (H : Hp) (r : Addr) (G : Prog) : Prop := ∃ (t b : Addr) (kvs : List (Key × V)), H r = some (.lst [.ref t, .ref b]) ∧ H t = some (.dK kvs) ∧ H b = some (.lst (G.begs.map fun n : Nat => V.int (n : Int))) ∧
  ∀ j p, G.pts[j]? = some p → ∃ v, valV kvs (Sum.inl ((j : Nat) : Int)) = some v ∧ PtAt (fun _ => True) H p v
theorem Told.same {H H' : Hp} {r : Addr} {G : Prog} (h : Told H r G) (e : Same H H') : Told H' r G := by
  obtain ⟨t, b, kvs, h1, h2, h3, h4⟩ := h
  exact ⟨t, b, kvs, e _ _ h1, e _ _ h2, e _ _ h3, fun j p hp => let ⟨v, e1, e2⟩ := h4 j p hp; ⟨v, e1, e2.same e⟩⟩
section
variable {P : Program} {w : World} {K : PySem.W.Frag} {mg : Str → Option Value} {base : Heap}
def sp_table : Sp := fun vs H Q _ => ∃ (a : Addr) (G : Prog), vs = [.ref a] ∧ LawProg H a G ∧ G.Ok ∧ ∀ (r : Addr) (H' : Hp), Same H H' → Told H' r G → Q (.ref r) H'
abbrev n__law_table : List Str := ["_law_program_here", "_law_table_here", "_law_begins", "_law_place", "_law_k", "_law_size_here"]
theorem sc__law_table : FnScope n__law_table ["_law_program_here"] (defScope s__law_table) := ⟨rfl, rfl, rfl, by decide +kernel, rfl, by decide +kernel, by decide +kernel⟩
theorem ok_table (T : Env K mg) (c__law_size : Cal P w K mg base 9 "_law_size" (sp_size 8) []) (c__law_fill : Cal P w K mg base 14 "_law_fill" (sp_fill 4) []) : Cal P w K mg base 15 "_law_table" sp_table [] := by
  obtain ⟨fd, F⟩ := T.F__law_table
  refine cal_by F T.g__law_table (F.bindsN fun _ _ _ _ _ _ us hl => match us, hl with | [_], _ => rfl) sc__law_table (fun vs H Q E h => ?_) (fun cdv A outer s H vs Q E hr h => ?_)
  · obtain ⟨a, G, rfl, _⟩ := h
    rfl
  obtain ⟨a, G, rfl, ⟨l, xs, ha, hl, hx⟩, ok, k⟩ := h
  refine ⟨_, pss_cons (ps_set (i := 1) sc__law_table.nd rfl (Or.inl rfl) pe_dnewK)
      (pss_cons (ps_set (i := 2) sc__law_table.nd rfl (Or.inl rfl) (pe_lst pa_nil))
      (pss_cons (ps_set (i := 3) sc__law_table.nd rfl (Or.inl rfl) pe_int)
      (pss_cons (ps_for PassesOwn.never rfl (pi_range1 rfl T.f_range (pa_cons (pe_callB call_len_seq (by rfl) T.f_len (by decide +kernel) (pa_cons (pe_ix ix_list (pv 0) pe_int (fun _ _ => rfl)) pa_nil)) pa_nil)) (pg_name (i := 4) sc__law_table.nd rfl (Or.inl rfl))
        (pss_cons (ps_set (i := 5) sc__law_table.nd rfl (Or.inl rfl) (pe_c c__law_size hr (by omega) rfl (pa_cons (pe_ix ix_tup (pe_ix ix_list (pe_ix ix_list (pv 0) pe_int (fun _ _ => rfl)) (pv 4) (fun _ _ => rfl)) pe_int (fun _ _ => rfl)) pa_nil)))
        (pss_cons (ps_expr (pe_bm PySem.F.plainAttrs_list PySem.F.slot_list_append PySem.F.type_list_append mt_append (pv 2) (pa_cons (pv 3) pa_nil)))
        (pss_cons (ps_expr (pe_c c__law_fill hr (by omega) rfl (pa_cons (pv 1) (pa_cons (pe_ix ix_tup (pe_ix ix_list (pe_ix ix_list (pv 0) pe_int (fun _ _ => rfl)) (pv 4) (fun _ _ => rfl)) pe_int (fun _ _ => rfl)) (pa_cons (pv 4) (pa_cons (pv 3) (pa_cons (pe_op op_add (pv 3) (pv 5)) pa_nil)))))))
        (pss_cons (ps_dput (hu_of hr) (pv 1) (pe_op op_add (pv 3) (pv 5)) (pe_lst (pa_cons (pv 4) (pa_cons pe_non (pa_cons pe_non (pa_cons (pe_lst pa_nil) pa_nil))))) rfl)
        (pss_one (ps_set (i := 3) sc__law_table.nd rfl (Or.inl rfl) (pe_op op_add (pe_op op_add (pv 3) (pv 5)) pe_int))))))))
      (pss_one (ps_ret (pe_lst (pa_cons (pv 1) (pa_cons (pv 2) pa_nil)))))))), ?_⟩
  intro t ht
  refine ⟨Nat.zero_le _, fun b hb => ?_⟩
  have tb : t ≠ b := fun z => by rw [← z, upd_same] at hb; cases hb
  have hb0 : H b = none := (same_upd ht).free hb
  generalize hH1 : upd H t (.dK []) = H1 at *
  have ht1 : H1 t = some (.dK []) := by rw [← hH1]; exact upd_same
  have s01 : Same H H1 := by rw [← hH1]; exact same_upd ht
  have back : ∀ {H' : Hp} {k' : List (Key × V)}, Dg t H1 H' k' → Same H H' := fun {H' k'} d x o h => d.sb x o (s01 x o h) (ne_of_none h ht)
  have hxl : xs.length = G.procs.length := by rw [hx.len, List.length_map]
  have n2 := ok.n2
  refine ⟨_, rfl, a, _, _, _, rfl, rfl, SqL.of ((s01.new hb) _ _ ha), rfl, l, xs, rfl, .inl (SqL.of ((s01.new hb) _ _ hl)), _, rfl, by omega, by omega, ?_⟩
  refine for_range (n := (xs.length : Int).toNat) (fun i σ H2 => ∃ (x4 x5 : Option V) (ki : List (Key × V)), σ = [some (.ref a), some (.ref t), some (.ref b), some (.int (psz (G.procs.take i))), x4, x5] ∧
      Dg t H1 H2 ki ∧ H2 b = some (.lst ((begs 0 (G.procs.take i)).map fun n : Nat => V.int (n : Int))) ∧ Filled (fun y => y ≠ b) H2 [] ki 0 (ptP 0 0 (G.procs.take i)))
    ⟨_, _, [], rfl, (Dg.refl ht1).same (same_upd hb), upd_same, .nil⟩ ?_ ?_
  · rintro i σ H2 hi ⟨x4, x5, ki, rfl, dg, hB, fl⟩
    have hib : i < G.procs.length := by omega
    obtain ⟨pr, hpr⟩ : ∃ pr, G.procs[i]? = some pr := ⟨_, List.getElem?_eq_getElem hib⟩
    have hmem := List.mem_of_getElem? hpr
    obtain ⟨v, hv, rv⟩ := hx.get (i := i) (d := procD pr) (by rw [List.getElem?_map, hpr]; rfl)
    obtain ⟨u, us, rfl, hu, v1, _, rfl, rfl, vb, _, rfl, rb, rfl⟩ := rv
    have ei : (0 : Int) + (i : Nat) = ((i : Nat) : Int) := Int.zero_add _
    have hat : atI xs (0 + (i : Nat)) = some (V.ref u) := by rw [ei]; exact atI_nat hv
    have eT : G.procs.take (i + 1) = G.procs.take i ++ [pr] := by rw [List.take_add_one, hpr]; rfl
    have elen : (G.procs.take i).length = i := by rw [List.length_take]; omega
    have s2 := back dg
    have dp := ok.deep pr hmem
    have hps := ok.psz
    have hpt := psz_take G.procs (i + 1)
    rw [eT, psz_snoc] at hpt
    have hkl := fl.2.2
    rw [ptP_len2] at hkl
    simp only [List.length_nil] at hkl
    generalize hpl : psz (G.procs.take i) = pl at *
    -- the size
    refine ⟨_, rfl, a, _, _, _, rfl, rfl, SqL.of (s2 _ _ ha), rfl, _, rfl, l, _, _, _, rfl, rfl, SqL.of (s2 _ _ hl), hat, u, _, _, _, rfl, rfl, SqT.of (s2 _ _ hu), rfl, pr.2, vb, rfl, Rp.at s2.tups _ _ rb, by omega, fun H3 sm3 => ?_⟩
    have dg3 := dg.same sm3
    have hB3 := sm3 _ _ hB
    have s3 := back dg3
    have blen : (begs 0 (G.procs.take i)).length = i := by rw [begs_len, elen]
    -- begins.append(place)
    refine ⟨_, rfl, .inl ⟨rfl, _, SqL.of hB3⟩, _, rfl, b, _, _, rfl, rfl, hB3, smallL (by rw [List.length_map]; omega), ?_⟩
    generalize hbs : ((begs 0 (G.procs.take i)).map fun n : Nat => V.int (n : Int)) ++ [V.int (pl : Int)] = bl
    have dg4 : Dg t H1 (upd H3 b (.lst bl)) ki := dg3.mut ht1 (by
      cases q : H1 b with
      | none => rfl
      | some o => rw [q] at hb; cases hb)
    have fl4 : Filled (fun y => y ≠ b) (upd H3 b (.lst bl)) [] ki 0 (ptP 0 0 (G.procs.take i)) := fl.imp fun p v z => (z.same sm3).updE (fun n => n rfl) hB3
    have s4 := back dg4
    have hB4 : (upd H3 b (.lst bl)) b = some (.lst bl) := upd_same
    generalize hH4 : upd H3 b (.lst bl) = H4 at *
    -- fill
    refine ⟨_, rfl, _, rfl, a, _, _, _, rfl, rfl, SqL.of (s4 _ _ ha), rfl, _, rfl, l, _, _, _, rfl, rfl, SqL.of (s4 _ _ hl), hat, u, _, _, _, rfl, rfl, SqT.of (s4 _ _ hu), rfl, _, rfl, _, rfl, _, rfl, _, rfl, _, _, rfl, rfl, ?_⟩
    refine ⟨t, pr.2, vb, i, pl, pl + bdS pr.2, ki, by rw [ei, Int.natCast_add]; rfl, Rp.at s4.tups _ _ rb, by omega, dg4.dk, by omega, fun k5 H5 dg5 fl5 => ?_⟩
    have dg15 := dg4.trans dg5
    have f5 : Filled (fun y => y ≠ b) H5 [] k5 0 (ptP 0 0 (G.procs.take i) ++ ptB i pl (pl + bdS pr.2) pr.2) := by
      refine Filled.app (fl4.imp fun p v z => dg5.pt dg4.dk z) ?_
      rw [ptP_len2, hpl, Nat.zero_add]
      exact fl5.imp fun p v z => z.imp fun y hy e => by
        rw [e, hB4] at hy
        cases hy
    have hk5 := f5.2.2
    rw [List.length_append, ptP_len2, ptB_len, hpl] at hk5
    simp only [List.length_nil] at hk5
    have hB5 := dg5.lst dg4.dk hB4
    -- the end
    refine ⟨_, rfl, Nat.zero_le _, fun e he => ⟨(by show 4 ≤ sizeLine; decide), fun z hz => ?_⟩⟩
    have dg6 := (dg15.same (same_upd (o := .lst []) he)).same (same_upd (o := .lst [V.int (0 + (i : Nat)), V.non, V.non, V.ref e]) hz)
    refine ⟨_, rfl, _, rfl, _, rfl, _, _, rfl, rfl, t, _, rfl, DPut.k (k := Sum.inl _) dg6.dk (smallL (by omega)), ?_⟩
    have hz5 : H5 z = none := (same_upd he).free hz
    have dg7 := dg6.put (k2 := putK k5 (Sum.inl ((pl : Int) + bdS pr.2)) (V.ref z))
    refine ⟨_, rfl, _, rfl, _, _, rfl, rfl, _, _, rfl, rfl, ?_⟩
    refine ⟨some (.int (0 + (i : Nat))), some (.int (bdS pr.2)), _, ?_, dg7, ?_, ?_⟩
    · rw [eT, psz_snoc, hpl]
      show [_, _, _, some (V.int ((pl : Int) + bdS pr.2 + 1)), _, _] = _
      have e1 : (pl : Int) + bdS pr.2 + 1 = ((pl + (bdS pr.2 + 1) : Nat) : Int) := by omega
      rw [e1]
    · rw [eT, begs_snoc, hpl, Nat.zero_add, List.map_append]
      have : bl = ((begs 0 (G.procs.take i)).map fun n : Nat => V.int (n : Int)) ++ [V.int (pl : Int)] := hbs.symm
      have h6 := same_upd hz (o := .lst [V.int (0 + (i : Nat)), V.non, V.non, V.ref e]) _ _ (same_upd he (o := .lst []) _ _ hB5)
      rw [upd_ne (Ne.symm tb), h6, this]
      rfl
    · rw [eT, ptP_snoc, hpl, elen, Nat.zero_add, Nat.zero_add, ← List.append_assoc]
      have up : ∀ {N : Addr → Prop} {p : Pt} {v : V}, PtAt N H5 p v → PtAt N (upd (upd (upd H5 e (.lst [])) z (.lst [V.int (0 + (i : Nat)), V.non, V.non, V.ref e])) t (.dK (putK k5 (Sum.inl ((pl : Int) + bdS pr.2)) (V.ref z)))) p v := fun q =>
        Dg.pt dg6.dk (Dg.put (Dg.refl dg6.dk)) ((q.same (same_upd he)).same (same_upd hz))
      refine Filled.app (f5.imp fun p v q => up q) ?_
      rw [List.length_append, ptP_len2, ptB_len, hpl, Nat.zero_add]
      have ek : (pl : Int) + bdS pr.2 = ((pl + bdS pr.2 : Nat) : Int) := by omega
      rw [ek]
      refine Filled.put .nil ⟨z, e, .non, .non, rfl, ne_of_none hB5 hz5 |>.symm, ne_of_none hB5 he |>.symm, ?_, ?_, rfl, rfl⟩
      · have tz : z ≠ t := fun y => by rw [y, dg15.dk] at hz5; cases hz5
        rw [upd_ne tz, upd_same]
        show _ = some (HO.lst [V.int ((i : Nat) : Int), _, _, _])
        rw [ei]
      · have te : e ≠ t := fun y => by rw [y, dg15.dk] at he; cases he
        rw [upd_ne te]
        exact same_upd hz _ _ upd_same
  · rintro σ H2 ⟨x4, x5, ki, rfl, dg, hB, fl⟩
    have eall : G.procs.take (xs.length : Int).toNat = G.procs := by
      have : (xs.length : Int).toNat = G.procs.length := by omega
      rw [this, List.take_length]
    rw [eall] at hB fl
    refine ⟨_, rfl, _, rfl, (by show 2 ≤ sizeLine; decide), fun r hr2 => ?_⟩
    have s2 := same_upd (o := .lst [V.ref t, V.ref b]) hr2
    refine k r _ ((back dg).trans s2) ⟨t, b, ki, upd_same, s2 _ _ dg.dk, s2 _ _ hB, fun j p hp => ?_⟩
    obtain ⟨v, e1, e2⟩ := fl.1 j p hp
    rw [Nat.zero_add] at e1
    exact ⟨v, e1, (e2.imp fun _ _ => trivial).same s2⟩
theorem ok_tab (T : Env K mg) : Cal P w K mg base 15 "_law_table" sp_table [] := by
  have b := ok_bodies (P := P) (w := w) (base := base) T
  have s0 : Cal P w K mg base 1 "_law_size" (sp_size 0) [] := by
    obtain ⟨fd, F⟩ := T.F__law_size
    exact Cal_mono (Cal_none F T.g__law_size (F.bindsN (ps := ["_law_body_here"]) fun _ _ _ _ _ _ us hl => match us, hl with | [_], _ => rfl) size_no) (by decide)
  have s8 : Cal P w K mg base 9 "_law_size" (sp_size 8) [] := by
    have s1 := ok_size T (by decide) b s0
    have s2 := ok_size T (by decide) b s1
    have s3 := ok_size T (by decide) b s2
    have s4 := ok_size T (by decide) b s3
    have s5 := ok_size T (by decide) b s4
    have s6 := ok_size T (by decide) b s5
    have s7 := ok_size T (by decide) b s6
    exact ok_size T (by decide) b s7
  have sL := ok_sizeL T (by decide) b s8
  have f0 : Cal P w K mg base 10 "_law_fill" (sp_fill 0) [] := by
    obtain ⟨fd, F⟩ := T.F__law_fill
    exact Cal_mono (Cal_none F T.g__law_fill (F.bindsN (ps := ["_law_table_here", "_law_body_here", "_law_procedure", "_law_place", "_law_behind"]) fun _ _ _ _ _ _ us hl => match us, hl with | [_, _, _, _, _], _ => rfl) fill_no) (by decide)
  have f1 := ok_fill T (by decide) b s8 sL (by decide) f0
  have f2 := ok_fill T (by decide) b s8 sL (by decide) f1
  have f3 := ok_fill T (by decide) b s8 sL (by decide) f2
  exact ok_table T s8 (ok_fill T (by decide) b s8 sL (by decide) f3)
end
end Pr
/-! What holds at every point of a program that is well formed; situations that belong to it. Plain Lean. -/
namespace Pr
open PySem
/-- a point's parts, its places within lo .. hi, or at the place behind -/
structure PtIn (gc lc np proc lo hi behind : Nat) (p : Pt) : Prop where
  proc : p.proc = proc
  stm : ∃ s f, p.stm = some s ∧ p.fol = some f ∧ s.ok gc lc np ∧ s.deep ≤ 3 ∧ ((lo ≤ f ∧ f < hi) ∨ f = behind) ∧ (∀ n ∈ p.ent, (lo ≤ n ∧ n < hi) ∨ n = behind) ∧ p.ent.length = s.bods.length
theorem PtIn.mono {gc lc np proc lo hi behind lo' hi' behind' : Nat} {p : Pt} (h : PtIn gc lc np proc lo hi behind p) (a : lo' ≤ lo) (b : hi ≤ hi') (c : (lo' ≤ behind ∧ behind < hi') ∨ behind = behind') : PtIn gc lc np proc lo' hi' behind' p := by
  obtain ⟨h1, s, f, e1, e2, e3, e3', e4, e5, e6⟩ := h
  refine ⟨h1, s, f, e1, e2, e3, e3', ?_, fun n hn => ?_, e6⟩
  · rcases e4 with e4 | e4
    · exact .inl ⟨by omega, by omega⟩
    · rw [e4]; exact c
  · rcases e5 n hn with e | e
    · exact .inl ⟨by omega, by omega⟩
    · rw [e]; exact c
theorem ent_in {p back : Nat} {b : List Sm} {lo hi behind : Nat} (h1 : lo ≤ p) (h2 : p + bdS b ≤ hi) (hb : (lo ≤ back ∧ back < hi) ∨ back = behind) : (lo ≤ ent p back b ∧ ent p back b < hi) ∨ ent p back b = behind := by
  cases b with
  | nil => exact hb
  | cons s r =>
    left
    have := s.size_pos
    simp only [ent, bdS] at h2 ⊢
    omega
theorem entsOf_in {back lo hi behind : Nat} (hb : (lo ≤ back ∧ back < hi) ∨ back = behind) : ∀ (bs : List (List Sm)) (p : Nat), lo ≤ p → p + (bs.map bdS).sum ≤ hi → ∀ n ∈ entsOf back p bs, (lo ≤ n ∧ n < hi) ∨ n = behind
  | [], _, _, _, n, hn => by simp [entsOf] at hn
  | b :: r, p, h1, h2, n, hn => by
    simp only [List.map_cons, List.sum_cons] at h2
    simp only [entsOf, List.mem_cons] at hn
    rcases hn with hn | hn
    · rw [hn]; exact ent_in h1 (by omega) hb
    · exact entsOf_in hb r (p + bdS b) (by omega) (by omega) n hn
mutual
theorem ptS_in {gc lc np : Nat} (proc place fol : Nat) : ∀ s : Sm, s.ok gc lc np → s.deep ≤ 3 → ∀ p ∈ ptS proc place fol s, PtIn gc lc np proc place (place + s.size) fol p
  | .ite e a b, ok, dp, p, hp => by
    rw [ptS_eq] at hp
    simp only [Sm.back, Sm.loop, Bool.false_eq_true, if_false, Sm.bods, ptBs, List.append_nil] at hp
    have sz : (Sm.ite e a b).size = 1 + (bdS a + bdS b) := rfl
    rcases List.mem_cons.mp hp with rfl | hp
    · refine ⟨rfl, _, _, rfl, rfl, ok, dp, .inr rfl, entsOf_in (.inr rfl) _ _ (by omega) (by rw [sz]; simp; omega), entsOf_len _ _ _⟩
    · simp only [Sm.ok] at ok
      simp only [Sm.deep] at dp
      rcases List.mem_append.mp hp with hp | hp
      · exact (ptB_in proc _ _ a ok.2.1 (by omega) p hp).mono (by omega) (by rw [sz]; omega) (.inr rfl)
      · exact (ptB_in proc _ _ b ok.2.2 (by omega) p hp).mono (by omega) (by rw [sz]; omega) (.inr rfl)
  | .ei a b, ok, dp, p, hp => by
    rw [ptS_eq] at hp
    simp only [Sm.back, Sm.loop, Bool.false_eq_true, if_false, Sm.bods, ptBs, List.append_nil] at hp
    have sz : (Sm.ei a b).size = 1 + (bdS a + bdS b) := rfl
    rcases List.mem_cons.mp hp with rfl | hp
    · refine ⟨rfl, _, _, rfl, rfl, ok, dp, .inr rfl, entsOf_in (.inr rfl) _ _ (by omega) (by rw [sz]; simp; omega), entsOf_len _ _ _⟩
    · simp only [Sm.ok] at ok
      simp only [Sm.deep] at dp
      rcases List.mem_append.mp hp with hp | hp
      · exact (ptB_in proc _ _ a ok.1 (by omega) p hp).mono (by omega) (by rw [sz]; omega) (.inr rfl)
      · exact (ptB_in proc _ _ b ok.2 (by omega) p hp).mono (by omega) (by rw [sz]; omega) (.inr rfl)
  | .wh e b, ok, dp, p, hp => by
    rw [ptS_eq] at hp
    simp only [Sm.back, Sm.loop, if_true, Sm.bods, ptBs, List.append_nil] at hp
    have sz : (Sm.wh e b).size = 1 + bdS b := rfl
    rcases List.mem_cons.mp hp with rfl | hp
    · refine ⟨rfl, _, _, rfl, rfl, ok, dp, .inr rfl, entsOf_in (.inl ⟨by omega, by omega⟩) _ _ (by omega) (by rw [sz]; simp; omega), entsOf_len _ _ _⟩
    · simp only [Sm.ok] at ok
      simp only [Sm.deep] at dp
      exact (ptB_in proc _ _ b ok.2 (by omega) p hp).mono (by omega) (by rw [sz]; omega) (.inl ⟨by omega, by omega⟩)
  | .rp b, ok, dp, p, hp => by
    rw [ptS_eq] at hp
    simp only [Sm.back, Sm.loop, if_true, Sm.bods, ptBs, List.append_nil] at hp
    have sz : (Sm.rp b).size = 1 + bdS b := rfl
    rcases List.mem_cons.mp hp with rfl | hp
    · refine ⟨rfl, _, _, rfl, rfl, ok, dp, .inr rfl, entsOf_in (.inl ⟨by omega, by omega⟩) _ _ (by omega) (by rw [sz]; simp; omega), entsOf_len _ _ _⟩
    · simp only [Sm.ok] at ok
      simp only [Sm.deep] at dp
      exact (ptB_in proc _ _ b ok (by omega) p hp).mono (by omega) (by rw [sz]; omega) (.inl ⟨by omega, by omega⟩)
  | .set v e, ok, dp, p, hp => by
    simp only [ptS, List.mem_singleton] at hp
    subst hp
    exact ⟨rfl, _, _, rfl, rfl, ok, dp, .inr rfl, (fun n hn => by simp at hn), rfl⟩
  | .free v, ok, dp, p, hp => by
    simp only [ptS, List.mem_singleton] at hp
    subst hp
    exact ⟨rfl, _, _, rfl, rfl, ok, dp, .inr rfl, (fun n hn => by simp at hn), rfl⟩
  | .call q, ok, dp, p, hp => by
    simp only [ptS, List.mem_singleton] at hp
    subst hp
    exact ⟨rfl, _, _, rfl, rfl, ok, dp, .inr rfl, (fun n hn => by simp at hn), rfl⟩
  | .ret, ok, dp, p, hp => by
    simp only [ptS, List.mem_singleton] at hp
    subst hp
    exact ⟨rfl, _, _, rfl, rfl, ok, dp, .inr rfl, (fun n hn => by simp at hn), rfl⟩
  | .pass q, ok, dp, p, hp => by
    simp only [ptS, List.mem_singleton] at hp
    subst hp
    exact ⟨rfl, _, _, rfl, rfl, ok, dp, .inr rfl, (fun n hn => by simp at hn), rfl⟩
theorem ptB_in {gc lc np : Nat} (proc place behind : Nat) : ∀ b : List Sm, bdOk gc lc np b → bdP b ≤ 3 → ∀ p ∈ ptB proc place behind b, PtIn gc lc np proc place (place + bdS b) behind p
  | [], _, _, p, hp => by simp [ptB] at hp
  | s :: r, ok, dp, p, hp => by
    simp only [bdOk] at ok
    simp only [bdP] at dp
    simp only [ptB] at hp
    have ssz := s.size_pos
    rcases List.mem_append.mp hp with hp | hp
    · refine (ptS_in proc place _ s ok.1 (by omega) p hp).mono (Nat.le_refl _) (by simp only [bdS]; omega) ?_
      exact ent_in (by omega) (by simp only [bdS]; omega) (.inr rfl)
    · exact (ptB_in proc _ behind r ok.2 (by omega) p hp).mono (by omega) (by simp only [bdS]; omega) (.inr rfl)
end
/-- what holds of a point of the program -/
structure PtOk (G : Prog) (p : Pt) : Prop where
  proc : p.proc < G.procs.length
  stm : ∀ s, p.stm = some s → s.ok G.gc (G.lc p.proc) G.procs.length ∧ s.deep ≤ 3 ∧ ∃ f, p.fol = some f ∧ (∃ q, G.pts[f]? = some q ∧ q.proc = p.proc) ∧ (∀ n ∈ p.ent, ∃ q, G.pts[n]? = some q ∧ q.proc = p.proc) ∧ p.ent.length = s.bods.length
theorem ptP_in {gc np : Nat} (P : List (Nat × List Sm)) (okP : ∀ p ∈ P, bdOk gc p.1 np p.2) (dpP : ∀ p ∈ P, bdP p.2 ≤ 3) (all : List Pt) : ∀ (ps : List (Nat × List Sm)) (k pl : Nat), P.drop k = ps → (∀ j, (ptP k pl ps)[j]? = all[pl + j]? ) → all.length = pl + (ptP k pl ps).length →
    ∀ p ∈ ptP k pl ps, p.proc < P.length ∧ ∀ s, p.stm = some s → s.ok gc (((P[p.proc]?).map (·.1)).getD 0) np ∧ s.deep ≤ 3 ∧ ∃ f, p.fol = some f ∧ (∃ q, all[f]? = some q ∧ q.proc = p.proc) ∧ (∀ n ∈ p.ent, ∃ q, all[n]? = some q ∧ q.proc = p.proc) ∧ p.ent.length = s.bods.length
  | [], _, _, _, _, _, p, hp => by simp [ptP] at hp
  | a :: r, k, pl, hd, hj, hl, p, hp => by
    have hk : P[k]? = some a := by
      have : (P.drop k)[0]? = some a := by rw [hd]; rfl
      simpa using this
    have hm := List.mem_of_getElem? hk
    have hkl := (List.getElem?_eq_some_iff.mp hk).1
    have inn := ptB_in (gc := gc) (lc := a.1) (np := np) k pl (pl + bdS a.2) a.2 (okP a hm) (dpP a hm)
    -- the points from pl to its end belong to procedure k
    have own : ∀ n, pl ≤ n → n ≤ pl + bdS a.2 → ∃ q, all[n]? = some q ∧ q.proc = k := by
      intro n h1 h2
      have e := hj (n - pl)
      rw [show pl + (n - pl) = n by omega] at e
      rw [← e]
      simp only [ptP]
      by_cases c : n - pl < (ptB k pl (pl + bdS a.2) a.2).length
      · rw [List.getElem?_append_left c]
        refine ⟨_, List.getElem?_eq_getElem c, ?_⟩
        exact (inn _ (List.getElem_mem c)).proc
      · have hn : n - pl = (ptB k pl (pl + bdS a.2) a.2).length := by rw [ptB_len] at c ⊢; omega
        rw [hn, List.getElem?_append_right (Nat.le_refl _), Nat.sub_self]
        exact ⟨_, rfl, rfl⟩
    simp only [ptP] at hp
    rcases List.mem_append.mp hp with hp | hp
    · obtain ⟨h1, s, f, e1, e2, e3, e3', e4, e5, e6⟩ := inn p hp
      refine ⟨by rw [h1]; exact hkl, fun s' hs' => ?_⟩
      rw [e1] at hs'
      cases hs'
      rw [h1, hk]
      refine ⟨e3, e3', f, e2, own f (by omega) (by omega), fun n hn => own n ?_ ?_, e6⟩
      · rcases e5 n hn with e | e <;> omega
      · rcases e5 n hn with e | e <;> omega
    · rcases List.mem_cons.mp hp with rfl | hp
      · exact ⟨hkl, fun s hs => by cases hs⟩
      · refine ptP_in P okP dpP all r (k + 1) (pl + bdS a.2 + 1) ?_ ?_ ?_ p hp
        · rw [← List.drop_drop, hd]; rfl
        · intro j
          have e := hj (bdS a.2 + 1 + j)
          simp only [ptP] at e
          rw [List.getElem?_append_right (by rw [ptB_len]; omega), ptB_len, show bdS a.2 + 1 + j - bdS a.2 = j + 1 by omega, List.getElem?_cons_succ] at e
          rw [e]
          congr 1
          omega
        · simp only [ptP, List.length_append, List.length_cons, ptB_len] at hl
          omega
theorem Prog.Ok.pt {G : Prog} (ok : G.Ok) {j : Nat} {p : Pt} (h : G.pts[j]? = some p) : PtOk G p := by
  obtain ⟨h1, h2⟩ := ptP_in G.procs ok.ok ok.deep G.pts G.procs 0 0 rfl (fun j => by rw [Nat.zero_add]; rfl) (by rw [Nat.zero_add]; rfl) p (List.mem_of_getElem? h)
  exact ⟨h1, h2⟩
/-- the entries of the procedures -/
theorem begs_at (all : List Pt) : ∀ (ps : List (Nat × List Sm)) (k pl i : Nat), (∀ j, (ptP k pl ps)[j]? = all[pl + j]?) → i < ps.length → ∃ n q, (begs pl ps)[i]? = some n ∧ all[n]? = some q ∧ q.proc = k + i
  | [], _, _, _, _, h => by simp at h
  | a :: r, k, pl, 0, hj, _ => by
    refine ⟨pl, ?_⟩
    have e := hj 0
    rw [Nat.add_zero] at e
    have hne : 0 < (ptP k pl (a :: r)).length := by simp only [ptP, List.length_append, List.length_cons]; omega
    refine ⟨(ptP k pl (a :: r))[0], rfl, ?_, ?_⟩
    · rw [← e]; exact List.getElem?_eq_getElem hne
    · have : ∀ p, (ptP k pl (a :: r))[0]? = some p → p.proc = k := by
        intro p hp
        cases ha : a.2 with
        | nil =>
          simp only [ptP, ha, ptB, List.nil_append, List.getElem?_cons_zero] at hp
          cases hp
          rfl
        | cons s t =>
          simp only [ptP, ha, ptB] at hp
          rw [ptS_eq] at hp
          simp at hp
          rw [← hp]
      exact this _ (List.getElem?_eq_getElem hne)
  | a :: r, k, pl, i + 1, hj, h => by
    obtain ⟨n, q, e1, e2, e3⟩ := begs_at all r (k + 1) (pl + bdS a.2 + 1) i (by
      intro j
      have e := hj (bdS a.2 + 1 + j)
      simp only [ptP] at e
      rw [List.getElem?_append_right (by rw [ptB_len]; omega), ptB_len, show bdS a.2 + 1 + j - bdS a.2 = j + 1 by omega, List.getElem?_cons_succ] at e
      rw [e]
      congr 1
      omega) (by simpa using h)
    exact ⟨n, q, by simpa [begs] using e1, e2, by omega⟩
theorem Prog.beg_at {G : Prog} {i : Nat} (h : i < G.procs.length) : ∃ n q, G.begs[i]? = some n ∧ G.pts[n]? = some q ∧ q.proc = i := by
  obtain ⟨n, q, a, b, c⟩ := begs_at G.pts G.procs 0 0 i (fun j => by rw [Nat.zero_add]; rfl) h
  exact ⟨n, q, a, b, by omega⟩

/-! ### situations that belong to the program -/
def FrOk (G : Prog) (f : Fr) : Prop := ∃ p, G.pts[f.1]? = some p ∧ f.2.length = G.lc p.proc
structure SitOk (G : Prog) (s : Sit) : Prop where
  g : s.1.length = G.gc
  f : ∀ f ∈ s.2, FrOk G f
theorem falses_len (n : Nat) : (falses n).length = n := by simp [falses]
theorem entry_ok {G : Prog} {k : Nat} (h : k < G.procs.length) : FrOk G (G.entry k) := by
  obtain ⟨n, q, a, b, c⟩ := Prog.beg_at h
  refine ⟨q, ?_, ?_⟩
  · unfold Prog.entry
    simp only [List.getD, a, Option.getD_some]
    exact b
  · show (falses (G.lc k)).length = _
    rw [falses_len, c]
theorem Vr.set_len (g l : List Bool) (b : Bool) (v : Vr) : (v.set g l b).1.length = g.length ∧ (v.set g l b).2.length = l.length := by cases v <;> simp [Vr.set]
theorem aft_ok {G : Prog} (ok : G.Ok) {g : List Bool} {f : Fr} (hg : g.length = G.gc) (hf : FrOk G f) : ∀ x ∈ aft G g f, x.1.length = G.gc ∧ (∀ y ∈ x.2, FrOk G y) ∧ x.2.length ≤ 2 := by
  obtain ⟨p, hp, hl⟩ := hf
  have po := ok.pt hp
  intro x hx
  unfold aft at hx
  rw [hp] at hx
  simp only [aftP] at hx
  cases hs : p.stm with
  | none =>
    rw [hs] at hx
    simp only [List.mem_singleton] at hx
    subst hx
    exact ⟨hg, fun y hy => by simp at hy, by simp⟩
  | some s =>
    obtain ⟨sok, _, fo, hfo, ⟨q, hq, hqp⟩, hent, hlen⟩ := po.stm s hs
    have efo : p.follow = fo := by simp [Pt.follow, hfo]
    have eent : ∀ i, i < s.bods.length → ∃ q, G.pts[p.en i]? = some q ∧ q.proc = p.proc := by
      intro i hi
      have hi' : i < p.ent.length := by omega
      have : p.en i = p.ent[i] := by simp [Pt.en, List.getD, hi']
      rw [this]
      exact hent _ (List.getElem_mem hi')
    -- a goal's frame
    have fr : ∀ (n : Nat) (g' l' : List Bool), g'.length = G.gc → l'.length = f.2.length → (∃ q, G.pts[n]? = some q ∧ q.proc = p.proc) → (g', [(n, l')]).1.length = G.gc ∧ (∀ y ∈ (g', [(n, l')]).2, FrOk G y) ∧ (g', [(n, l')]).2.length ≤ 2 := by
      rintro n g' l' h1 h2 ⟨q', a, b⟩
      refine ⟨h1, fun y hy => ?_, by simp⟩
      simp only [List.mem_singleton] at hy
      subst hy
      exact ⟨q', a, by rw [b, ← hl]; exact h2⟩
    have flw : ∃ q, G.pts[p.follow]? = some q ∧ q.proc = p.proc := ⟨q, by rw [efo]; exact hq, hqp⟩
    rw [hs] at hx
    cases s with
    | ret =>
      simp only [List.mem_singleton] at hx
      subst hx
      exact ⟨hg, fun y hy => by simp at hy, by simp⟩
    | call k =>
      simp only [List.mem_singleton] at hx
      subst hx
      refine ⟨hg, fun y hy => ?_, by simp⟩
      simp only [List.mem_cons, List.not_mem_nil, or_false] at hy
      rcases hy with rfl | rfl
      · exact entry_ok sok
      · exact ⟨q, by rw [efo]; exact hq, by rw [hqp]; exact hl⟩
    | set v e =>
      simp only [goals, List.map_cons, List.map_nil, List.mem_singleton] at hx
      subst hx
      have := v.set_len g f.2 (e.val g f.2)
      exact fr _ _ _ (by rw [this.1]; exact hg) this.2 flw
    | free v =>
      simp only [goals, List.map_cons, List.map_nil, List.mem_cons, List.not_mem_nil, or_false] at hx
      rcases hx with rfl | rfl
      · have := v.set_len g f.2 false
        exact fr _ _ _ (by rw [this.1]; exact hg) this.2 flw
      · have := v.set_len g f.2 true
        exact fr _ _ _ (by rw [this.1]; exact hg) this.2 flw
    | ite e a b =>
      simp only [goals, List.map_cons, List.map_nil, List.mem_singleton] at hx
      subst hx
      refine fr _ _ _ hg rfl (eent _ ?_)
      split <;> simp [Sm.bods]
    | ei a b =>
      simp only [goals, List.map_cons, List.map_nil, List.mem_cons, List.not_mem_nil, or_false] at hx
      rcases hx with rfl | rfl
      · exact fr _ _ _ hg rfl (eent 0 (by simp [Sm.bods]))
      · exact fr _ _ _ hg rfl (eent 1 (by simp [Sm.bods]))
    | wh e b =>
      simp only [goals, List.map_cons, List.map_nil, List.mem_singleton] at hx
      subst hx
      refine fr _ _ _ hg rfl ?_
      split
      · exact eent 0 (by simp [Sm.bods])
      · exact flw
    | rp b =>
      simp only [goals, List.map_cons, List.map_nil, List.mem_cons, List.not_mem_nil, or_false] at hx
      rcases hx with rfl | rfl
      · exact fr _ _ _ hg rfl (eent 0 (by simp [Sm.bods]))
      · exact fr _ _ _ hg rfl flw
    | pass n =>
      simp only [goals, List.map_cons, List.map_nil, List.mem_singleton] at hx
      subst hx
      exact fr _ _ _ hg rfl flw
theorem sucs_ok {G : Prog} (ok : G.Ok) {s : Sit} (h : SitOk G s) : ∀ x ∈ sucs G s, SitOk G x ∧ x.2.length ≤ s.2.length + 1 := by
  obtain ⟨g, fs⟩ := s
  intro x hx
  cases fs with
  | nil => simp [sucs] at hx
  | cons f r =>
    simp only [sucs] at hx
    obtain ⟨y, hy, rfl⟩ := List.mem_map.mp hx
    obtain ⟨a, b, c⟩ := aft_ok ok h.g (h.f f (List.mem_cons_self ..)) y hy
    refine ⟨⟨a, fun z hz => ?_⟩, ?_⟩
    · rcases List.mem_append.mp hz with hz | hz
      · exact b z hz
      · exact h.f z (List.mem_cons_of_mem _ hz)
    · simp only [List.length_append, List.length_cons]
      omega
theorem begin_ok {G : Prog} (ok : G.Ok) : SitOk G G.begin := ⟨falses_len _, fun f hf => by
  simp only [Prog.begin, List.mem_singleton] at hf
  subst hf
  exact entry_ok (by have := ok.n1; omega)⟩
end Pr
/-! The law's own values, frames. -/
namespace Pr
open PySem PySem.Spec PyProof.Rows L2
open C8 (Cal Met Mak pe_c pe_mk pe_mt pe_mt0)
/-- a list of the globals' and the locals' values -/
def ValsAt (H : Hp) (a : Addr) (g l : List Bool) : Prop := ∃ ga la : Addr, H a = some (.lst [.ref ga, .ref la]) ∧ H ga = some (.tup (g.map .bl)) ∧ H la = some (.tup (l.map .bl))
theorem ValsAt.same {H H' : Hp} {a : Addr} {g l : List Bool} (h : ValsAt H a g l) (e : Same H H') : ValsAt H' a g l := by
  obtain ⟨ga, la, h1, h2, h3⟩ := h
  exact ⟨ga, la, e _ _ h1, e _ _ h2, e _ _ h3⟩
theorem cut1 (a : V) (r : List V) : cutV (a :: r) (some 1) none = r := by
  unfold cutV
  rw [HT.sIx_none]
  have e : HT.sIx (a :: r).length 0 (some ((1 : Nat) : Int)) = 1 := by rw [HT.sIx_nat, List.length_cons]; omega
  have e' : HT.sIx (a :: r).length 0 (some (1 : Int)) = 1 := e
  rw [e', List.drop_succ_cons, List.drop_zero, List.length_cons, Nat.add_sub_cancel, List.take_length]
theorem cut1_not (a : V) (r : List V) : ¬ (HT.sIx (a :: r).length 0 (some 1) = 0 ∧ HT.sIx (a :: r).length (a :: r).length none = (a :: r).length) := by
  have e : HT.sIx (a :: r).length 0 (some ((1 : Nat) : Int)) = 1 := by rw [HT.sIx_nat, List.length_cons]; omega
  have e' : HT.sIx (a :: r).length 0 (some (1 : Int)) = 1 := e
  rw [e']
  intro h
  exact absurd h.1 (by decide)
theorem at_bool {bs : List Bool} {i : Nat} (h : i < bs.length) : atI (bs.map V.bl) (i : Int) = some (.bl (bs.getD i false)) := atI_nat (by rw [List.getElem?_map, List.getElem?_eq_getElem h]; simp [h])
section
variable {P : Program} {w : World} {K : PySem.W.Frag} {mg : Str → Option Value} {base : Heap}
def sp_value (n : Nat) : Sp := fun vs H Q _ => ∃ (e : Ex) (v : V) (a : Addr) (g l : List Bool), vs = [v, .ref a] ∧ Rp H e.d v ∧ ValsAt H a g l ∧ e.ok g.length l.length ∧ e.deep < n ∧ ∀ H', Same H H' → Q (.bl (e.val g l)) H'
theorem value_no : ∀ vs H Q E, ¬ sp_value 0 vs H Q E := fun vs H Q E ⟨_, _, _, _, _, _, _, _, _, h, _⟩ => Nat.not_lt_zero _ h
abbrev n__law_value : List Str := ["_law_expression_here", "_law_values", "_law_form", "_law_parts", "_law_part"]
theorem sc__law_value : FnScope n__law_value ["_law_expression_here", "_law_values"] (defScope s__law_value) := ⟨rfl, rfl, rfl, by decide +kernel, rfl, by decide +kernel, by decide +kernel⟩
theorem ok_value {n m : Nat} (T : Env K mg) (c__law_value : Cal P w K mg base m "_law_value" (sp_value n) []) : Cal P w K mg base (m + 1) "_law_value" (sp_value (n + 1)) [] := by
  obtain ⟨fd, F⟩ := T.F__law_value
  refine cal_by F T.g__law_value (F.bindsN fun _ _ _ _ _ _ us hl => match us, hl with | [_, _], _ => rfl) sc__law_value (fun vs H Q E h => ?_) (fun cdv A outer s H vs Q E hr h => ?_)
  · obtain ⟨e, v, a, g, l, rfl, _⟩ := h
    rfl
  obtain ⟨e, v, a, g, l, rfl, hv, hva, ok, dp, k⟩ := h
  obtain ⟨ga, la, ha, hga, hla⟩ := id hva
  refine ⟨_, pss_cons (ps_set (i := 2) sc__law_value.nd rfl (Or.inl rfl) (pe_ix ix_tup (pv 0) pe_int (fun _ _ => rfl)))
      (pss_cons (ps_if (pt_cmpR op_eq (pv 2) pe_str (nomark _))
        (pss_one (ps_ret (pe_ix ix_tup (pv 0) pe_int (fun _ _ => rfl))))
        pss_nil)
      (pss_cons (ps_if (pt_cmpR op_eq (pv 2) pe_str (nomark _))
        (pss_one (ps_ret (pe_ix ix_tup (pe_ix ix_list (pv 1) (pe_callTy call_int1 (by rfl) T.f_int (by decide +kernel) (pa_cons (pe_cmpR op_eq (pe_ix ix_tup (pe_ix ix_tup (pv 0) pe_int (fun _ _ => rfl)) pe_int (fun _ _ => rfl)) pe_str (nomark _)) pa_nil)) (fun _ _ => rfl)) (pe_ix ix_tup (pe_ix ix_tup (pv 0) pe_int (fun _ _ => rfl)) pe_int (fun _ _ => rfl)) (fun _ _ => rfl))))
        pss_nil)
      (pss_cons (ps_setLc (i := 3) (own := [("_law_part", 4)]) (g := gName 4) (by rfl) sc__law_value.nd rfl rfl (sw_true rfl rfl rfl (by decide +kernel)) (pi_tup (pe_slice sl_tupA (pv 0) (po_some pe_int) po_none)) (blkOk_by (own := [("_law_part", 4)]) (N := n__law_value) (sc := defScope s__law_value) (by decide +kernel)) (fun _ _ _ _ _ => (pg_name (i := 4) sc__law_value.nd rfl (Or.inl rfl))) (fun _ _ _ _ _ => pts_nil) (fun _ _ _ _ _ => (pe_c c__law_value hr (by omega) rfl (pa_cons (pv 4) (pa_cons (pv 1) pa_nil)))))
      (pss_cons (ps_if (pt_cmpR op_eq (pv 2) pe_str (nomark _))
        (pss_one (ps_ret (pe_not (pe_ix ix_list (pv 3) pe_int (fun _ _ => rfl)))))
        pss_nil)
      (pss_cons (ps_if (pt_cmpR op_eq (pv 2) pe_str (nomark _))
        (pss_one (ps_ret (pe_and (pe_ix ix_list (pv 3) pe_int (fun _ _ => rfl)) (pe_one (pe_ix ix_list (pv 3) pe_int (fun _ _ => rfl))))))
        pss_nil)
      (pss_cons (ps_if (pt_cmpR op_eq (pv 2) pe_str (nomark _))
        (pss_one (ps_ret (pe_or (pe_ix ix_list (pv 3) pe_int (fun _ _ => rfl)) (pe_one (pe_ix ix_list (pv 3) pe_int (fun _ _ => rfl))))))
        pss_nil)
      (pss_one (ps_ret (pe_cmpR op_eq (pe_ix ix_list (pv 3) pe_int (fun _ _ => rfl)) (pe_ix ix_list (pv 3) pe_int (fun _ _ => rfl)) (nomark _)))))))))), ?_⟩
  have op : (∃ b, e = .tr b) ∨ (∃ x, e = .of x) ∨ ∃ (s : Str) (es : List Ex), e.d = .tuple (.str s :: es.map Ex.d) ∧ (∀ x ∈ es, x.ok g.length l.length ∧ x.deep < n) ∧ es.length ≤ 2 ∧
      ((s = "not" ∧ ∃ a, es = [a] ∧ e.val g l = !a.val g l) ∨ (s = "and" ∧ ∃ a b, es = [a, b] ∧ e.val g l = (a.val g l && b.val g l)) ∨ (s = "or" ∧ ∃ a b, es = [a, b] ∧ e.val g l = (a.val g l || b.val g l)) ∨ (s = "same" ∧ ∃ a b, es = [a, b] ∧ e.val g l = (a.val g l == b.val g l))) := by
    cases e with
    | tr b => exact .inl ⟨b, rfl⟩
    | of x => exact .inr (.inl ⟨x, rfl⟩)
    | no a =>
      simp only [Ex.ok] at ok
      simp only [Ex.deep] at dp
      refine .inr (.inr ⟨"not", [a], rfl, fun x hx => ?_, by simp, .inl ⟨rfl, a, rfl, rfl⟩⟩)
      simp at hx
      subst hx
      exact ⟨ok, by omega⟩
    | an a b =>
      simp only [Ex.ok] at ok
      simp only [Ex.deep] at dp
      refine .inr (.inr ⟨"and", [a, b], rfl, fun x hx => ?_, by simp, .inr (.inl ⟨rfl, a, b, rfl, rfl⟩)⟩)
      simp at hx
      rcases hx with rfl | rfl
      · exact ⟨ok.1, by omega⟩
      · exact ⟨ok.2, by omega⟩
    | oo a b =>
      simp only [Ex.ok] at ok
      simp only [Ex.deep] at dp
      refine .inr (.inr ⟨"or", [a, b], rfl, fun x hx => ?_, by simp, .inr (.inr (.inl ⟨rfl, a, b, rfl, rfl⟩))⟩)
      simp at hx
      rcases hx with rfl | rfl
      · exact ⟨ok.1, by omega⟩
      · exact ⟨ok.2, by omega⟩
    | sm a b =>
      simp only [Ex.ok] at ok
      simp only [Ex.deep] at dp
      refine .inr (.inr ⟨"same", [a, b], rfl, fun x hx => ?_, by simp, .inr (.inr (.inr ⟨rfl, a, b, rfl, rfl⟩))⟩)
      simp at hx
      rcases hx with rfl | rfl
      · exact ⟨ok.1, by omega⟩
      · exact ⟨ok.2, by omega⟩
  rcases op with ⟨b, rfl⟩ | ⟨x, rfl⟩ | ⟨s, es, ed, hes, hel, hs⟩
  · obtain ⟨q, xs, rfl, hq, _, _, rfl, rfl, _, _, rfl, rfl, rfl⟩ := hv
    refine ⟨_, rfl, q, _, _, _, rfl, rfl, SqT.of hq, rfl, ?_⟩
    refine ⟨_, rfl, rfl, _, rfl, if_t (by decide +kernel) ?_⟩
    exact ⟨_, rfl, q, _, _, _, rfl, rfl, SqT.of hq, rfl, k H (Same.refl H)⟩
  · obtain ⟨q, xs, rfl, hq, _, _, rfl, rfl, u, _, rfl, hu, rfl⟩ := hv
    refine ⟨_, rfl, q, _, _, _, rfl, rfl, SqT.of hq, rfl, ?_⟩
    refine ⟨_, rfl, rfl, _, rfl, if_f (by decide +kernel) ?_⟩
    refine ⟨_, rfl, rfl, _, rfl, if_t (by decide +kernel) ?_⟩
    have iss : ∃ (t : Str) (i : Nat) (ua : Addr) (bs : Addr) (xs : List Bool), x.d = .tuple [.str t, .int i] ∧ u = .ref ua ∧ H ua = some (.tup [.str t, .int i]) ∧ atI [V.ref ga, V.ref la] (if decide (V.str t = V.str "local") = true then 1 else 0) = some (.ref bs) ∧ H bs = some (.tup (xs.map .bl)) ∧ i < xs.length ∧ xs.getD i false = x.val g l := by
      cases x with
      | g i =>
        obtain ⟨ua, us, rfl, hua, _, _, rfl, rfl, _, _, rfl, rfl, rfl⟩ := hu
        exact ⟨"global", i, ua, ga, g, rfl, rfl, hua, by rw [show decide (V.str "global" = V.str "local") = false by decide +kernel]; rfl, hga, ok, rfl⟩
      | l i =>
        obtain ⟨ua, us, rfl, hua, _, _, rfl, rfl, _, _, rfl, rfl, rfl⟩ := hu
        exact ⟨"local", i, ua, la, l, rfl, rfl, hua, by rw [show decide (V.str "local" = V.str "local") = true by decide +kernel]; rfl, hla, ok, rfl⟩
    obtain ⟨t, i, ua, bs, ys, _, rfl, hua, hix, hbs, hi, hval⟩ := iss
    refine ⟨_, rfl, _, rfl, q, _, _, _, rfl, rfl, SqT.of hq, rfl, ua, _, _, _, rfl, rfl, SqT.of hua, rfl, rfl, .inr ⟨_, rfl, a, _, _, _, rfl, rfl, SqL.of ha, hix, ?_⟩⟩
    refine ⟨_, rfl, q, _, _, _, rfl, rfl, SqT.of hq, rfl, ua, _, _, _, rfl, rfl, SqT.of hua, rfl, bs, _, _, _, rfl, rfl, SqT.of hbs, at_bool hi, ?_⟩
    rw [hval]
    exact k H (Same.refl H)
  rw [ed] at hv
  obtain ⟨q, xs, rfl, hq, _, vs, rfl, rfl, hvs⟩ := hv
  have h1 : decide (V.str s = V.str "truth") = false := by rcases hs with ⟨rfl, _⟩ | ⟨rfl, _⟩ | ⟨rfl, _⟩ | ⟨rfl, _⟩ <;> decide +kernel
  have h2 : decide (V.str s = V.str "of") = false := by rcases hs with ⟨rfl, _⟩ | ⟨rfl, _⟩ | ⟨rfl, _⟩ | ⟨rfl, _⟩ <;> decide +kernel
  refine ⟨_, rfl, q, _, _, _, rfl, rfl, SqT.of hq, at0, ?_⟩
  refine ⟨_, rfl, rfl, _, rfl, if_f h1 ?_⟩
  refine ⟨_, rfl, rfl, _, rfl, if_f h2 ?_⟩
  refine ⟨_, rfl, 1, rfl, q, _, rfl, SqT.of hq, (fun z => absurd z (cut1_not _ _)), fun _ p hp => ?_⟩
  have hp1 : (upd H p (.tup (cutV (V.str s :: vs) (some 1) none))) p = some (.tup vs) := by rw [upd_same, cut1]
  have sp1 : Same H (upd H p (.tup (cutV (V.str s :: vs) (some 1) none))) := same_upd hp
  generalize upd H p (.tup (cutV (V.str s :: vs) (some 1) none)) = H1 at *
  refine ⟨p, rfl, ⟨_, SqT.of hp1⟩, fun D hD => ?_⟩
  have hvl : vs.length = es.length := by rw [hvs.len, List.length_map]
  refine lc_it (walk_tup (K := K) (a := p) (xs := vs)) (fun j H3 => Same H1 H3 ∧ H3 D = some (.lst ((es.take j).map fun x => V.bl (x.val g l)))) ⟨same_upd hD, upd_same⟩ (fun j H3 _ z => SqT.of (z.1 _ _ hp1)) ?_ ?_
  · rintro j y _ H3 hj ⟨sm3, hD3⟩ ⟨rfl, hyj⟩
    obtain ⟨d, hdj, rdj⟩ := hvs.getV hyj
    rw [List.getElem?_map] at hdj
    obtain ⟨c, hc, rfl⟩ := Option.map_eq_some_iff.mp hdj
    obtain ⟨okc, dpc⟩ := hes c (List.mem_of_getElem? hc)
    have s3 := sp1.trans sm3
    refine ⟨rfl, ?_⟩
    dsimp only [tYes]
    refine iteT ?_
    refine ⟨_, rfl, _, rfl, c, y, a, g, l, rfl, Rp.at s3.tups _ _ rdj, hva.same s3, okc, dpc, fun H4 sm4 => ⟨_, sm4 _ _ hD3, smallL (by rw [List.length_map, List.length_take]; omega), (sm3.trans sm4).mut hD, ?_⟩⟩
    rw [upd_same, List.take_add_one, hc, List.map_append]
    rfl
  rintro H3 ⟨sm3, hD3⟩
  rw [hvl, List.take_length] at hD3
  have s3 := sp1.trans sm3
  rcases hs with ⟨rfl, x, rfl, ev⟩ | ⟨rfl, x, y, rfl, ev⟩ | ⟨rfl, x, y, rfl, ev⟩ | ⟨rfl, x, y, rfl, ev⟩
  · refine ⟨_, rfl, rfl, _, rfl, if_t (by decide +kernel) ?_⟩
    refine ⟨_, rfl, D, _, _, _, rfl, rfl, SqL.of hD3, rfl, _, rfl, ?_⟩
    rw [← ev]
    exact k H3 s3
  · refine ⟨_, rfl, rfl, _, rfl, if_f (by decide +kernel) ?_⟩
    refine ⟨_, rfl, rfl, _, rfl, if_t (by decide +kernel) ?_⟩
    refine ⟨_, rfl, D, _, _, _, rfl, rfl, SqL.of hD3, rfl, _, rfl, ?_⟩
    refine ite2 (fun c => ?_) (fun c => ?_)
    · refine ⟨_, rfl, D, _, _, _, rfl, rfl, SqL.of hD3, rfl, ?_⟩
      have e2 : y.val g l = e.val g l := by rw [ev, c, Bool.true_and]
      show Q (.bl (y.val g l)) H3
      rw [e2]
      exact k H3 s3
    · have e2 : false = e.val g l := by rw [ev, Bool.eq_false_iff.mpr c, Bool.false_and]
      rw [e2]
      exact k H3 s3
  · refine ⟨_, rfl, rfl, _, rfl, if_f (by decide +kernel) ?_⟩
    refine ⟨_, rfl, rfl, _, rfl, if_f (by decide +kernel) ?_⟩
    refine ⟨_, rfl, rfl, _, rfl, if_t (by decide +kernel) ?_⟩
    refine ⟨_, rfl, D, _, _, _, rfl, rfl, SqL.of hD3, rfl, _, rfl, ?_⟩
    refine ite2 (fun c => ?_) (fun c => ?_)
    · have e2 : true = e.val g l := by rw [ev, c, Bool.true_or]
      rw [e2]
      exact k H3 s3
    · refine ⟨_, rfl, D, _, _, _, rfl, rfl, SqL.of hD3, rfl, ?_⟩
      have e2 : y.val g l = e.val g l := by rw [ev, Bool.eq_false_iff.mpr c, Bool.false_or]
      show Q (.bl (y.val g l)) H3
      rw [e2]
      exact k H3 s3
  · refine ⟨_, rfl, rfl, _, rfl, if_f (by decide +kernel) ?_⟩
    refine ⟨_, rfl, rfl, _, rfl, if_f (by decide +kernel) ?_⟩
    refine ⟨_, rfl, rfl, _, rfl, if_f (by decide +kernel) ?_⟩
    refine ⟨_, rfl, D, _, _, _, rfl, rfl, SqL.of hD3, rfl, _, rfl, D, _, _, _, rfl, rfl, SqL.of hD3, rfl, rfl, ?_⟩
    have e2 : decide (V.bl (x.val g l) = V.bl (y.val g l)) = e.val g l := by
      rw [ev]
      cases x.val g l <;> cases y.val g l <;> rfl
    rw [e2]
    exact k H3 s3
/-! ### _law_with -/
def sp_with : Sp := fun vs H Q _ => ∃ (a : Addr) (g l : List Bool) (x : Vr) (v : V) (b : Bool), vs = [.ref a, v, .bl b] ∧ ValsAt H a g l ∧ Rp H x.d v ∧ x.ok g.length l.length ∧ ∀ (r : Addr) (H' : Hp), Same H H' → ValsAt H' r (x.set g l b).1 (x.set g l b).2 → Q (.ref r) H'
abbrev n__law_with : List Str := ["_law_values", "_law_variable_here", "_law_value_here", "_law_rows"]
theorem sc__law_with : FnScope n__law_with ["_law_values", "_law_variable_here", "_law_value_here"] (defScope s__law_with) := ⟨rfl, rfl, rfl, by decide +kernel, rfl, by decide +kernel, by decide +kernel⟩
theorem ok_with (T : Env K mg) : Cal P w K mg base 1 "_law_with" sp_with [] := by
  obtain ⟨fd, F⟩ := T.F__law_with
  refine cal_by F T.g__law_with (F.bindsN fun _ _ _ _ _ _ us hl => match us, hl with | [_, _, _], _ => rfl) sc__law_with (fun vs H Q E h => ?_) (fun cdv A outer s H vs Q E hr h => ?_)
  · obtain ⟨a, g, l, x, v, b, rfl, _⟩ := h
    rfl
  obtain ⟨a, g, l, x, v, b, rfl, ⟨ga, la, ha, hga, hla⟩, hv, ok, k⟩ := h
  refine ⟨_, pss_cons (ps_set (i := 3) sc__law_with.nd rfl (Or.inl rfl) (pe_lst (pa_cons (pe_callTy call_list_of (by rfl) T.f_list (by decide +kernel) (pa_cons (pe_ix ix_list (pv 0) pe_int (fun _ _ => rfl)) pa_nil)) (pa_cons (pe_callTy call_list_of (by rfl) T.f_list (by decide +kernel) (pa_cons (pe_ix ix_list (pv 0) pe_int (fun _ _ => rfl)) pa_nil)) pa_nil))))
      (pss_cons (ps_asg (pv 2) (pg_sub (pe_ix ix_list (pv 3) (pe_callTy call_int1 (by rfl) T.f_int (by decide +kernel) (pa_cons (pe_cmpR op_eq (pe_ix ix_tup (pv 1) pe_int (fun _ _ => rfl)) pe_str (nomark _)) pa_nil)) (fun _ _ => rfl)) (pe_ix ix_tup (pv 1) pe_int (fun _ _ => rfl)) set_list))
      (pss_one (ps_ret (pe_lst (pa_cons (pe_callTy call_tuple_of (by rfl) T.f_tuple (by decide +kernel) (pa_cons (pe_ix ix_list (pv 3) pe_int (fun _ _ => rfl)) pa_nil)) (pa_cons (pe_callTy call_tuple_of (by rfl) T.f_tuple (by decide +kernel) (pa_cons (pe_ix ix_list (pv 3) pe_int (fun _ _ => rfl)) pa_nil)) pa_nil)))))), ?_⟩
  -- the two rows, new
  refine ⟨_, rfl, a, _, _, _, rfl, rfl, SqL.of ha, rfl, ga, _, rfl, .inr (SqT.of hga), fun r1 hr1 => ?_⟩
  refine ⟨_, rfl, a, _, _, _, rfl, rfl, SqL.of (same_upd hr1 _ _ ha), rfl, la, _, rfl, .inr (SqT.of (same_upd hr1 _ _ hla)), fun r2 hr2 => ⟨(by show 2 ≤ sizeLine; decide), fun rs hrs => ?_⟩⟩
  have s1 : Same H (upd (upd (upd H r1 (.lst (g.map .bl))) r2 (.lst (l.map .bl))) rs (.lst [.ref r1, .ref r2])) := ((same_upd hr1).new hr2).new hrs
  have h1 : (upd (upd (upd H r1 (.lst (g.map .bl))) r2 (.lst (l.map .bl))) rs (.lst [.ref r1, .ref r2])) r1 = some (.lst (g.map .bl)) := same_upd hrs _ _ (same_upd hr2 _ _ upd_same)
  have h2 : (upd (upd (upd H r1 (.lst (g.map .bl))) r2 (.lst (l.map .bl))) rs (.lst [.ref r1, .ref r2])) r2 = some (.lst (l.map .bl)) := same_upd hrs _ _ upd_same
  have h3 : (upd (upd (upd H r1 (.lst (g.map .bl))) r2 (.lst (l.map .bl))) rs (.lst [.ref r1, .ref r2])) rs = some (.lst [.ref r1, .ref r2]) := upd_same
  have n1 : H r1 = none := hr1
  have n2 : H r2 = none := (same_upd hr1).free hr2
  have n3 : H rs = none := ((same_upd hr1).new hr2).free hrs
  have d12 : r1 ≠ r2 := ne_of_none (H := upd H r1 (.lst (g.map .bl))) upd_same hr2
  have d13 : r1 ≠ rs := ne_of_none (same_upd (o := .lst (l.map .bl)) hr2 _ _ upd_same) hrs
  have d23 : r2 ≠ rs := ne_of_none (H := upd (upd H r1 (.lst (g.map .bl))) r2 (.lst (l.map .bl))) upd_same hrs
  generalize upd (upd (upd H r1 (.lst (g.map .bl))) r2 (.lst (l.map .bl))) rs (.lst [.ref r1, .ref r2]) = H3 at *
  -- the place, the store
  have fin : ∀ (xs ys : List Bool) (H4 : Hp), Same H H4 → H4 r1 = some (.lst (xs.map .bl)) → H4 r2 = some (.lst (ys.map .bl)) → H4 rs = some (.lst [.ref r1, .ref r2]) → (∀ (r : Addr) (H' : Hp), Same H H' → ValsAt H' r xs ys → Q (.ref r) H') →
      ∃ p1 zs i v1, V.ref rs = .ref p1 ∧ V.int 0 = .int i ∧ SqL K H4 p1 zs ∧ atI zs i = some v1 ∧ ∃ p ys', [v1] = [V.ref p] ∧ ((SqL K H4 p ys' ∧ ∀ t, H4 t = none → ∃ p1 zs i v1, V.ref rs = .ref p1 ∧ V.int 1 = .int i ∧ SqL K (upd H4 t (.tup ys')) p1 zs ∧ atI zs i = some v1 ∧ ∃ p ys2, [v1] = [V.ref p] ∧ ((SqL K (upd H4 t (.tup ys')) p ys2 ∧ ∀ t2, (upd H4 t (.tup ys')) t2 = none → [V.ref t, V.ref t2].length ≤ sizeLine ∧ ∀ r, (upd (upd H4 t (.tup ys')) t2 (.tup ys2)) r = none → Q (.ref r) (upd (upd (upd H4 t (.tup ys')) t2 (.tup ys2)) r (.lst [.ref t, .ref t2]))) ∨ False)) ∨ False) := by
    intro xs ys H4 sm e1 e2 e3 q
    refine ⟨rs, _, 0, _, rfl, rfl, SqL.of e3, rfl, r1, _, rfl, .inl ⟨SqL.of e1, fun t ht => ⟨rs, _, 1, _, rfl, rfl, SqL.of (same_upd ht _ _ e3), rfl, r2, _, rfl, .inl ⟨SqL.of (same_upd ht _ _ e2), fun t2 ht2 => ⟨(by show 2 ≤ sizeLine; decide), fun r hr4 => ?_⟩⟩⟩⟩⟩
    exact q r _ (((sm.new ht).new ht2).new hr4) ⟨t, t2, upd_same, same_upd hr4 _ _ (same_upd ht2 _ _ upd_same), same_upd hr4 _ _ upd_same⟩
  cases x with
  | g i =>
    obtain ⟨ua, us, rfl, hua, _, _, rfl, rfl, _, _, rfl, rfl, rfl⟩ := hv
    refine ⟨_, rfl, _, rfl, _, rfl, ua, _, _, _, rfl, rfl, SqT.of (s1 _ _ hua), rfl, rfl, .inr ⟨_, rfl, rs, _, _, _, rfl, rfl, SqL.of h3, (by rw [show decide (V.str "global" = V.str "local") = false by decide +kernel]; rfl), ?_⟩⟩
    refine ⟨_, rfl, ua, _, _, _, rfl, rfl, SqT.of (s1 _ _ hua), rfl, r1, _, _, i, rfl, rfl, h1, ?_, ?_⟩
    · have : i < g.length := ok
      unfold ixN
      rw [List.length_map, if_pos (by omega), if_pos (by omega), Int.toNat_natCast]
    obtain ⟨p1, zs, j, v1, f1, f2, f3, f4, p, ys', f5, f6⟩ := fin (g.set i b) l (upd H3 r1 (.lst ((g.map .bl).set i (.bl b)))) (s1.mut n1) (by rw [upd_same, List.map_set]) (by rw [upd_ne (Ne.symm d12)]; exact h2) (by rw [upd_ne (Ne.symm d13)]; exact h3) k
    rcases f6 with ⟨f7, f8⟩ | f6
    · refine ⟨_, rfl, p1, zs, j, v1, f1, f2, f3, f4, p, ys', f5, .inl ⟨f7, fun t ht => ?_⟩⟩
      obtain ⟨p1, zs, i, v1, g1, g2, g3, g4, p, ys2, g5, g6⟩ := f8 t ht
      rcases g6 with ⟨g7, g8⟩ | g6
      · exact ⟨_, rfl, p1, zs, i, v1, g1, g2, g3, g4, p, ys2, g5, .inl ⟨g7, g8⟩⟩
      · exact g6.elim
    · exact f6.elim
  | l i =>
    obtain ⟨ua, us, rfl, hua, _, _, rfl, rfl, _, _, rfl, rfl, rfl⟩ := hv
    refine ⟨_, rfl, _, rfl, _, rfl, ua, _, _, _, rfl, rfl, SqT.of (s1 _ _ hua), rfl, rfl, .inr ⟨_, rfl, rs, _, _, _, rfl, rfl, SqL.of h3, (by rw [show decide (V.str "local" = V.str "local") = true by decide +kernel]; rfl), ?_⟩⟩
    refine ⟨_, rfl, ua, _, _, _, rfl, rfl, SqT.of (s1 _ _ hua), rfl, r2, _, _, i, rfl, rfl, h2, ?_, ?_⟩
    · have : i < l.length := ok
      unfold ixN
      rw [List.length_map, if_pos (by omega), if_pos (by omega), Int.toNat_natCast]
    obtain ⟨p1, zs, j, v1, f1, f2, f3, f4, p, ys', f5, f6⟩ := fin g (l.set i b) (upd H3 r2 (.lst ((l.map .bl).set i (.bl b)))) (s1.mut n2) (by rw [upd_ne d12]; exact h1) (by rw [upd_same, List.map_set]) (by rw [upd_ne (Ne.symm d23)]; exact h3) k
    rcases f6 with ⟨f7, f8⟩ | f6
    · refine ⟨_, rfl, p1, zs, j, v1, f1, f2, f3, f4, p, ys', f5, .inl ⟨f7, fun t ht => ?_⟩⟩
      obtain ⟨p1, zs, i, v1, g1, g2, g3, g4, p, ys2, g5, g6⟩ := f8 t ht
      rcases g6 with ⟨g7, g8⟩ | g6
      · exact ⟨_, rfl, p1, zs, i, v1, g1, g2, g3, g4, p, ys2, g5, .inl ⟨g7, g8⟩⟩
      · exact g6.elim
    · exact f6.elim
end
end Pr
/-! The law's own frames and what follows a situation. -/
namespace Pr
open PySem PySem.Spec PyProof.Rows L2
open C8 (Cal Met Mak pe_c pe_mk pe_mt pe_mt0)
section
variable {P : Program} {w : World} {K : PySem.W.Frag} {mg : Str → Option Value} {base : Heap}
def sp_frame : Sp := fun vs H Q _ => ∃ (a t : Addr) (G : Prog) (i : Nat), vs = [.ref a, .ref t, .int i] ∧ LawProg H a G ∧ Told H t G ∧ G.Ok ∧ i < G.procs.length ∧ ∀ (v : V) (H' : Hp), Same H H' → Rp H' (frD (G.entry i)) v → Q v H'
theorem falses_bl (n : Nat) : List.replicate n (V.bl false) = (falses n).map .bl := by simp [falses]
abbrev n__law_frame : List Str := ["_law_program_here", "_law_told", "_law_procedure", "_law_k"]
theorem sc__law_frame : FnScope n__law_frame ["_law_program_here", "_law_told", "_law_procedure"] (defScope s__law_frame) := ⟨rfl, rfl, rfl, by decide +kernel, rfl, by decide +kernel, by decide +kernel⟩
theorem ok_frame (T : Env K mg) : Cal P w K mg base 1 "_law_frame" sp_frame [] := by
  obtain ⟨fd, F⟩ := T.F__law_frame
  refine cal_by F T.g__law_frame (F.bindsN fun _ _ _ _ _ _ us hl => match us, hl with | [_, _, _], _ => rfl) sc__law_frame (fun vs H Q E h => ?_) (fun cdv A outer s H vs Q E hr h => ?_)
  · obtain ⟨a, t, G, i, rfl, _⟩ := h
    rfl
  obtain ⟨a, t, G, i, rfl, ⟨l, xs, ha, hl, hx⟩, ⟨td, tb, kvs, ht, htd, htb, _⟩, ok, hi, k⟩ := h
  obtain ⟨n, q, hb, _, _⟩ := Prog.beg_at hi
  obtain ⟨pr, hpr⟩ : ∃ pr, G.procs[i]? = some pr := ⟨_, List.getElem?_eq_getElem hi⟩
  obtain ⟨v, hv, rv⟩ := hx.get (i := i) (d := procD pr) (by rw [List.getElem?_map, hpr]; rfl)
  obtain ⟨u, us, rfl, hu, v1, _, rfl, rfl, vb, _, rfl, rb, rfl⟩ := rv
  have lc := ok.lc pr (List.mem_of_getElem? hpr)
  have elc : G.lc i = pr.1 := by unfold Prog.lc; rw [hpr]; rfl
  have een : G.entry i = (n, falses pr.1) := by unfold Prog.entry; rw [elc]; simp only [List.getD, hb, Option.getD_some]
  refine ⟨_, pss_one (ps_ret (pe_tup (pa_cons (pe_ix ix_list (pe_ix ix_list (pv 1) pe_int (fun _ _ => rfl)) (pv 2) (fun _ _ => rfl)) (pa_cons (pe_callTy call_tuple_of (by rfl) T.f_tuple (by decide +kernel) (pa_cons (pe_lc (own := [("_law_k", 3)]) (g := gName 3) (by rfl) sc__law_frame.nd (pi_range1 rfl T.f_range (pa_cons (pe_ix ix_tup (pe_ix ix_list (pe_ix ix_list (pv 0) pe_int (fun _ _ => rfl)) (pv 2) (fun _ _ => rfl)) pe_int (fun _ _ => rfl)) pa_nil)) (blkOk_by (own := [("_law_k", 3)]) (N := n__law_frame) (sc := defScope s__law_frame) (by decide +kernel)) (fun _ _ _ _ _ => (pg_name (i := 3) sc__law_frame.nd rfl (Or.inl rfl))) (fun _ _ _ _ _ => pts_nil) (fun _ _ _ _ _ => pe_bl)) pa_nil)) pa_nil)))), ?_⟩
  refine ⟨_, rfl, t, _, _, _, rfl, rfl, SqL.of ht, rfl, _, rfl, tb, _, _, _, rfl, rfl, SqL.of htb, atI_nat (by rw [List.getElem?_map, hb]; rfl), ?_⟩
  refine ⟨_, rfl, a, _, _, _, rfl, rfl, SqL.of ha, rfl, _, rfl, l, _, _, _, rfl, rfl, SqL.of hl, atI_nat hv, u, _, _, _, rfl, rfl, SqT.of hu, rfl, _, rfl, by omega, by omega, fun D hD => ?_⟩
  refine lc_it (walk_range (lo := 0) (n := (pr.1 : Int).toNat)) (fun j H3 => Same H H3 ∧ H3 D = some (.lst (List.replicate j (.bl false)))) ⟨same_upd hD, upd_same⟩ (fun _ _ _ _ => trivial) ?_ ?_
  · rintro j y _ H3 hj ⟨sm3, hD3⟩ ⟨rfl, _⟩
    refine ⟨rfl, ?_⟩
    dsimp only [tYes]
    refine iteT ?_
    refine ⟨_, hD3, smallL (by rw [List.length_replicate]; omega), sm3.mut hD, ?_⟩
    rw [upd_same, List.replicate_succ']
  · rintro H3 ⟨sm3, hD3⟩
    rw [Int.toNat_natCast] at hD3
    refine ⟨D, _, rfl, .inl ⟨SqL.of hD3, fun p hp => ⟨(by show 2 ≤ sizeLine; decide), fun z hz => ?_⟩⟩⟩
    refine k _ _ ((sm3.new hp).new hz) ?_
    rw [een]
    refine Rp.new hz (.cons rfl (.one ?_))
    refine ⟨p, _, rfl, upd_same, ?_⟩
    rw [falses_bl]
    exact RpAll.bools _
def sp_first : Sp := fun vs H Q _ => ∃ (a t : Addr) (G : Prog), vs = [.ref a, .ref t] ∧ LawProg H a G ∧ Told H t G ∧ G.Ok ∧ ∀ (v : V) (H' : Hp), Same H H' → Rp H' (sitD G.begin) v → Q v H'
abbrev n__law_first : List Str := ["_law_program_here", "_law_told", "_law_k"]
theorem sc__law_first : FnScope n__law_first ["_law_program_here", "_law_told"] (defScope s__law_first) := ⟨rfl, rfl, rfl, by decide +kernel, rfl, by decide +kernel, by decide +kernel⟩
theorem ok_first (T : Env K mg) (c__law_frame : Cal P w K mg base 1 "_law_frame" sp_frame []) : Cal P w K mg base 2 "_law_first" sp_first [] := by
  obtain ⟨fd, F⟩ := T.F__law_first
  refine cal_by F T.g__law_first (F.bindsN fun _ _ _ _ _ _ us hl => match us, hl with | [_, _], _ => rfl) sc__law_first (fun vs H Q E h => ?_) (fun cdv A outer s H vs Q E hr h => ?_)
  · obtain ⟨a, t, G, rfl, _⟩ := h
    rfl
  obtain ⟨a, t, G, rfl, hG, hT, ok, k⟩ := h
  obtain ⟨l, xs, ha, hl, hx⟩ := id hG
  refine ⟨_, pss_one (ps_ret (pe_tup (pa_cons (pe_callTy call_tuple_of (by rfl) T.f_tuple (by decide +kernel) (pa_cons (pe_lc (own := [("_law_k", 2)]) (g := gName 2) (by rfl) sc__law_first.nd (pi_range1 rfl T.f_range (pa_cons (pe_ix ix_list (pv 0) pe_int (fun _ _ => rfl)) pa_nil)) (blkOk_by (own := [("_law_k", 2)]) (N := n__law_first) (sc := defScope s__law_first) (by decide +kernel)) (fun _ _ _ _ _ => (pg_name (i := 2) sc__law_first.nd rfl (Or.inl rfl))) (fun _ _ _ _ _ => pts_nil) (fun _ _ _ _ _ => pe_bl)) pa_nil)) (pa_cons (pe_tup (pa_cons (pe_c c__law_frame hr (by omega) rfl (pa_cons (pv 0) (pa_cons (pv 1) (pa_cons pe_int pa_nil)))) pa_nil)) pa_nil)))), ?_⟩
  have gc := ok.gc
  refine ⟨_, rfl, a, _, _, _, rfl, rfl, SqL.of ha, rfl, _, rfl, by omega, by omega, fun D hD => ?_⟩
  refine lc_it (walk_range (lo := 0) (n := (G.gc : Int).toNat)) (fun j H3 => Same H H3 ∧ H3 D = some (.lst (List.replicate j (.bl false)))) ⟨same_upd hD, upd_same⟩ (fun _ _ _ _ => trivial) ?_ ?_
  · rintro j y _ H3 hj ⟨sm3, hD3⟩ ⟨rfl, _⟩
    refine ⟨rfl, ?_⟩
    dsimp only [tYes]
    refine iteT ?_
    refine ⟨_, hD3, smallL (by rw [List.length_replicate]; omega), sm3.mut hD, ?_⟩
    rw [upd_same, List.replicate_succ']
  · rintro H3 ⟨sm3, hD3⟩
    rw [Int.toNat_natCast] at hD3
    refine ⟨D, _, rfl, .inl ⟨SqL.of hD3, fun p hp => ?_⟩⟩
    have s4 := sm3.new (o := .tup (List.replicate G.gc (.bl false))) hp
    refine ⟨_, rfl, _, rfl, a, t, G, 0, rfl, hG.same s4, hT.same s4, ok, by have := ok.n1; omega, fun v H5 s5 rv => ⟨(by show 1 ≤ sizeLine; decide), fun z hz => ⟨(by show 2 ≤ sizeLine; decide), fun y hy => ?_⟩⟩⟩
    refine k _ _ (((s4.trans s5).new hz).new hy) ?_
    refine Rp.new hy (.cons ?_ (.one (Rp.new hz (.one rv))))
    refine ⟨p, _, rfl, same_upd hz _ _ (s5 _ _ upd_same), ?_⟩
    rw [falses_bl]
    exact RpAll.bools _
end
end Pr
/-! The program's small functions: powers, numbers for values, values for numbers. -/
namespace Pr
open PySem PySem.Spec PyProof.Rows L2 RT
open C8 (Cal Met Mak pe_c pe_mk pe_mt pe_mt0)
theorem walk_revT {K : PySem.W.Frag} {a : Addr} {xs : List V} : Walk (ItvT K a xs.length) xs.length (fun H => SqT K H a xs) (fun i H x H' => H' = H ∧ xs[xs.length - 1 - i]? = some x) :=
  ⟨fun i _ hi q => ⟨hi, xs, xs[xs.length - 1 - i]'(by omega), q, by simp [show xs.length - 1 - i < xs.length by omega]⟩, fun _ _ => Nat.le_refl _, fun _ _ _ _ _ q y => ⟨y.1, y.2 xs q⟩⟩
theorem vals_snoc : ∀ (c n : Nat), vals n (c + 1) = vals n c ++ [(n / 2 ^ c) % 2 == 1]
  | 0, n => by simp [vals]
  | c + 1, n => by
    have ih := vals_snoc c (n / 2)
    rw [vals, ih]
    show _ = (n % 2 == 1) :: (vals (n / 2) c ++ _)
    rw [Nat.div_div_eq_div_mul, Nat.pow_succ, Nat.mul_comm 2]
section
variable {P : Program} {w : World} {K : PySem.W.Frag} {mg : Str → Option Value} {base : Heap}
def sp_twos : Sp := fun vs H Q _ => ∃ n : Nat, vs = [.int n] ∧ n ≤ 50 ∧ Q (.int ((2 ^ n : Nat) : Int)) H
abbrev n_twos : List Str := ["count", "result", "_"]
theorem sc_twos : FnScope n_twos ["count"] (defScope s_twos) := ⟨rfl, rfl, rfl, by decide +kernel, rfl, by decide +kernel, by decide +kernel⟩
theorem ok_twos (T : Env K mg) : Cal P w K mg base 1 "twos" sp_twos [] := by
  obtain ⟨fd, F⟩ := T.F_twos
  refine cal_by F T.g_twos (F.bindsN fun _ _ _ _ _ _ us hl => match us, hl with | [_], _ => rfl) sc_twos (fun vs H Q E h => ?_) (fun cdv A outer s H vs Q E hr h => ?_)
  · obtain ⟨n, rfl, _⟩ := h
    rfl
  obtain ⟨n, rfl, hn, k⟩ := h
  refine ⟨_, pss_cons (ps_set (i := 1) sc_twos.nd rfl (Or.inl rfl) pe_int)
      (pss_cons (ps_for PassesOwn.never rfl (pi_range1 rfl T.f_range (pa_cons (pv 0) pa_nil)) (pg_name (i := 2) sc_twos.nd rfl (Or.inl rfl))
        (pss_one (ps_set (i := 1) sc_twos.nd rfl (Or.inl rfl) (pe_op op_mul pe_int (pv 1)))))
      (pss_one (ps_ret (pv 1)))), ?_⟩
  refine ⟨_, rfl, _, rfl, by omega, by omega, ?_⟩
  refine for_range (n := (n : Int).toNat) (fun i σ H' => H' = H ∧ ∃ v, σ = [some (.int n), some (.int ((2 ^ i : Nat) : Int)), v]) ⟨rfl, _, rfl⟩ ?_ ?_
  · rintro i σ H' hi ⟨rfl, v, rfl⟩
    refine ⟨_, rfl, _, _, rfl, rfl, .inl ⟨by decide, by decide⟩, rfl, some (.int (0 + (i : Nat))), ?_⟩
    show _ = _
    rw [Nat.pow_succ, Nat.mul_comm, Int.natCast_mul]
    rfl
  · rintro σ H' ⟨rfl, v, rfl⟩
    refine ⟨_, rfl, ?_⟩
    rw [Int.toNat_natCast]
    exact k
def sp_num : Sp := fun vs H Q _ => ∃ (a : Addr) (bs : List Bool), vs = [.ref a] ∧ H a = some (.tup (bs.map .bl)) ∧ Q (.int ((num bs : Nat) : Int)) H
abbrev n_number_of : List Str := ["values", "total", "value"]
theorem sc_number_of : FnScope n_number_of ["values"] (defScope s_number_of) := ⟨rfl, rfl, rfl, by decide +kernel, rfl, by decide +kernel, by decide +kernel⟩
theorem ok_num (T : Env K mg) : Cal P w K mg base 1 "number_of" sp_num [] := by
  obtain ⟨fd, F⟩ := T.F_number_of
  refine cal_by F T.g_number_of (F.bindsN fun _ _ _ _ _ _ us hl => match us, hl with | [_], _ => rfl) sc_number_of (fun vs H Q E h => ?_) (fun cdv A outer s H vs Q E hr h => ?_)
  · obtain ⟨a, bs, rfl, _⟩ := h
    rfl
  obtain ⟨a, bs, rfl, ha, k⟩ := h
  refine ⟨_, pss_cons (ps_set (i := 1) sc_number_of.nd rfl (Or.inl rfl) pe_int)
      (pss_cons (ps_for PassesOwn.never rfl (pi_revA (by rfl) T.f_reversed (pv 0)) (pg_name (i := 2) sc_number_of.nd rfl (Or.inl rfl))
        (pss_one (ps_set (i := 1) sc_number_of.nd rfl (Or.inl rfl) (pe_op op_add (pe_op op_mul pe_int (pv 1)) (pe_callTy call_int1 (by rfl) T.f_int (by decide +kernel) (pa_cons (pv 2) pa_nil))))))
      (pss_one (ps_ret (pv 1)))), ?_⟩
  refine ⟨_, rfl, a, _, rfl, .inr ⟨SqT.of ha, ?_⟩⟩
  refine for_it walk_revT (fun i σ H' => H' = H ∧ ∃ v, σ = [some (.ref a), some (.int ((num (bs.drop (bs.length - i)) : Nat) : Int)), v]) ⟨rfl, _, by rw [Nat.sub_zero, List.drop_length]; rfl⟩ (fun j σ H6 _ z => by rw [z.1]; exact SqT.of ha) ?_ ?_
  · rintro j y σ _ H6 hj ⟨rfl, v, rfl⟩ ⟨rfl, hyj⟩
    rw [List.length_map] at hj hyj
    rw [List.getElem?_map] at hyj
    obtain ⟨b, hb, rfl⟩ := Option.map_eq_some_iff.mp hyj
    refine ⟨_, rfl, _, _, rfl, rfl, .inl ⟨by decide, by decide⟩, _, rfl, .inr ⟨_, rfl, _, _, rfl, rfl, rfl, some (.bl b), ?_⟩⟩
    have e : bs.drop (bs.length - (j + 1)) = b :: bs.drop (bs.length - j) := by
      have hi : bs.length - 1 - j < bs.length := by omega
      rw [show bs.length - (j + 1) = bs.length - 1 - j by omega, List.drop_eq_getElem_cons hi]
      rw [List.getElem?_eq_getElem hi] at hb
      rw [Option.some.inj hb, show bs.length - 1 - j + 1 = bs.length - j by omega]
    rw [e]
    show _ = _
    simp only [num]
    cases b
    · simp
    · simp
      omega
  · rintro σ H' ⟨rfl, v, rfl⟩
    refine ⟨_, rfl, ?_⟩
    rw [List.length_map, Nat.sub_self, List.drop_zero]
    exact k
def sp_vals : Sp := fun vs H Q _ => ∃ (n c : Nat), vs = [.int n, .int c] ∧ c ≤ 50 ∧ ∀ (a : Addr) (H' : Hp), Same H H' → H a = none → H' a = some (.tup ((vals n c).map .bl)) → Q (.ref a) H'
abbrev n_values_of : List Str := ["number", "count", "values", "_"]
theorem sc_values_of : FnScope n_values_of ["number", "count"] (defScope s_values_of) := ⟨rfl, rfl, rfl, by decide +kernel, rfl, by decide +kernel, by decide +kernel⟩
theorem ok_vals (T : Env K mg) : Cal P w K mg base 1 "values_of" sp_vals [] := by
  obtain ⟨fd, F⟩ := T.F_values_of
  refine cal_by F T.g_values_of (F.bindsN fun _ _ _ _ _ _ us hl => match us, hl with | [_, _], _ => rfl) sc_values_of (fun vs H Q E h => ?_) (fun cdv A outer s H vs Q E hr h => ?_)
  · obtain ⟨n, c, rfl, _⟩ := h
    rfl
  obtain ⟨n, c, rfl, hc, k⟩ := h
  refine ⟨_, pss_cons (ps_set (i := 2) sc_values_of.nd rfl (Or.inl rfl) (pe_lst pa_nil))
      (pss_cons (ps_for PassesOwn.never rfl (pi_range1 rfl T.f_range (pa_cons (pv 1) pa_nil)) (pg_name (i := 3) sc_values_of.nd rfl (Or.inl rfl))
        (pss_cons (ps_expr (pe_bm PySem.F.plainAttrs_list PySem.F.slot_list_append PySem.F.type_list_append mt_append (pv 2) (pa_cons (pe_cmpR op_eq (pe_op op_mod (pv 0) pe_int) pe_int (nomark _)) pa_nil)))
        (pss_one (ps_set (i := 0) sc_values_of.nd rfl (Or.inl rfl) (pe_op op_fdiv (pv 0) pe_int)))))
      (pss_one (ps_ret (pe_callTy call_tuple_of (by rfl) T.f_tuple (by decide +kernel) (pa_cons (pv 2) pa_nil))))), ?_⟩
  refine ⟨Nat.zero_le _, fun l hl => ⟨_, rfl, _, rfl, by omega, by omega, ?_⟩⟩
  refine for_range (n := (c : Int).toNat) (fun i σ H1 => Same H H1 ∧ H1 l = some (.lst ((vals n i).map .bl)) ∧ ∃ v, σ = [some (.int ((n / 2 ^ i : Nat) : Int)), some (.int c), some (.ref l), v])
    ⟨same_upd hl, upd_same, none, by rw [Nat.pow_zero, Nat.div_one]; rfl⟩ ?_ ?_
  · rintro i σ H1 hi ⟨sm, h1, v, rfl⟩
    refine ⟨_, rfl, .inl ⟨rfl, _, SqL.of h1⟩, _, rfl, _, _, rfl, rfl, (by show (0 : Int) < 2; decide), rfl, l, _, _, rfl, rfl, h1, smallL (by rw [List.length_map, vals_len]; omega), ?_⟩
    refine ⟨_, rfl, _, _, rfl, rfl, ⟨by decide, by decide⟩, sm.mut hl, ?_, some (.int (0 + (i : Nat))), ?_⟩
    · rw [upd_same, vals_snoc, List.map_append]
      have e0 : decide (V.int (((n / 2 ^ i : Nat) : Int) % 2) = V.int 1) = (n / 2 ^ i % 2 == 1) := by
        have e1 : ((n / 2 ^ i : Nat) : Int) % 2 = ((n / 2 ^ i % 2 : Nat) : Int) := by omega
        rw [e1]
        rcases Nat.mod_two_eq_zero_or_one (n / 2 ^ i) with e | e <;> rw [e] <;> decide +kernel
      show some (HO.lst (List.map V.bl (vals n i) ++ [V.bl (decide (V.int (((n / 2 ^ i : Nat) : Int) % 2) = V.int 1))])) = _
      rw [e0]
      rfl
    · show _ = _
      rw [Nat.pow_succ, ← Nat.div_div_eq_div_mul]
      rfl
  · rintro σ H1 ⟨sm, h1, v, rfl⟩
    rw [Int.toNat_natCast] at h1
    exact ⟨_, rfl, l, _, rfl, .inl ⟨SqL.of h1, fun a ha => k a _ (sm.new ha) (sm.free ha) upd_same⟩⟩
def sp_nov : Sp := fun vs H Q _ => ∃ (c : Nat), vs = [.int c] ∧ c ≤ 50 ∧ ∀ (a : Addr) (H' : Hp), Same H H' → H a = none → H' a = some (.tup ((falses c).map .bl)) → Q (.ref a) H'
abbrev n_no_values : List Str := ["count", "_"]
theorem sc_no_values : FnScope n_no_values ["count"] (defScope s_no_values) := ⟨rfl, rfl, rfl, by decide +kernel, rfl, by decide +kernel, by decide +kernel⟩
theorem ok_nov (T : Env K mg) : Cal P w K mg base 1 "no_values" sp_nov [] := by
  obtain ⟨fd, F⟩ := T.F_no_values
  refine cal_by F T.g_no_values (F.bindsN fun _ _ _ _ _ _ us hl => match us, hl with | [_], _ => rfl) sc_no_values (fun vs H Q E h => ?_) (fun cdv A outer s H vs Q E hr h => ?_)
  · obtain ⟨c, rfl, _⟩ := h
    rfl
  obtain ⟨c, rfl, hc, k⟩ := h
  refine ⟨_, pss_one (ps_ret (pe_callTy call_tuple_of (by rfl) T.f_tuple (by decide +kernel) (pa_cons (pe_lc (own := [("_", 1)]) (g := gName 1) (by rfl) sc_no_values.nd (pi_range1 rfl T.f_range (pa_cons (pv 0) pa_nil)) (blkOk_by (own := [("_", 1)]) (N := n_no_values) (sc := defScope s_no_values) (by decide +kernel)) (fun _ _ _ _ _ => (pg_name (i := 1) sc_no_values.nd rfl (Or.inl rfl))) (fun _ _ _ _ _ => pts_nil) (fun _ _ _ _ _ => pe_bl)) pa_nil))), ?_⟩
  refine ⟨_, rfl, _, rfl, by omega, by omega, fun D hD => ?_⟩
  refine lc_it (walk_range (lo := 0) (n := (c : Int).toNat)) (fun j H3 => Same H H3 ∧ H3 D = some (.lst (List.replicate j (.bl false)))) ⟨same_upd hD, upd_same⟩ (fun _ _ _ _ => trivial) ?_ ?_
  · rintro j y _ H3 hj ⟨sm3, hD3⟩ ⟨rfl, _⟩
    refine ⟨rfl, ?_⟩
    dsimp only [tYes]
    refine iteT ?_
    refine ⟨_, hD3, smallL (by rw [List.length_replicate]; omega), sm3.mut hD, ?_⟩
    rw [upd_same, List.replicate_succ']
  · rintro H3 ⟨sm3, hD3⟩
    rw [Int.toNat_natCast] at hD3
    refine ⟨D, _, rfl, .inl ⟨SqL.of hD3, fun p hp => ?_⟩⟩
    refine k _ _ (sm3.new hp) (sm3.free hp) ?_
    rw [upd_same, falses_bl]
end
end Pr
/-! The program's values of expressions, changed values, bodies. -/
namespace Pr
open PySem PySem.Spec PyProof.Rows L2 RT
open C8 (Cal Met Mak pe_c pe_mk pe_mt pe_mt0)
abbrev dvs2 (ga la : Addr) : List (Key × V) := [(Sum.inr "global", V.ref ga), (Sum.inr "local", V.ref la)]
theorem dvs_g (ga la : Addr) : valV (dvs2 ga la) (Sum.inr "global") = some (.ref ga) := valV_pos rfl
theorem ng : ¬ ((Sum.inr (Str.ofString "global") : Key) = Sum.inr (Str.ofString "local")) := by decide +kernel
theorem nl : ¬ ((Sum.inr (Str.ofString "local") : Key) = Sum.inr (Str.ofString "global")) := by decide +kernel
theorem ngS : ¬ (Str.ofString "global" = Str.ofString "local") := by decide +kernel
theorem nlS : ¬ (Str.ofString "local" = Str.ofString "global") := by decide +kernel
theorem dvs_l (ga la : Addr) : valV (dvs2 ga la) (Sum.inr "local") = some (.ref la) := (valV_neg ng).trans (valV_pos rfl)
theorem dvs_pg (ga la r : Addr) : putK (dvs2 ga la) (Sum.inr "global") (.ref r) = dvs2 r la := by simp [putK, nlS]
theorem dvs_pl (ga la r : Addr) : putK (dvs2 ga la) (Sum.inr "local") (.ref r) = dvs2 ga r := by simp [putK, ngS]
/-- the dict of the globals' and the locals' values -/
def DvAt (H : Hp) (d : Addr) (g l : List Bool) : Prop := ∃ ga la : Addr, H d = some (.dK (dvs2 ga la)) ∧ H ga = some (.tup (g.map .bl)) ∧ H la = some (.tup (l.map .bl))
theorem DvAt.same {H H' : Hp} {d : Addr} {g l : List Bool} (h : DvAt H d g l) (e : Same H H') : DvAt H' d g l := by
  obtain ⟨ga, la, h1, h2, h3⟩ := h
  exact ⟨ga, la, e _ _ h1, e _ _ h2, e _ _ h3⟩
section
variable {P : Program} {w : World} {K : PySem.W.Frag} {mg : Str → Option Value} {base : Heap}
def sp_valof (n : Nat) : Sp := fun vs H Q _ => ∃ (e : Ex) (v : V) (d : Addr) (g l : List Bool), vs = [v, .ref d] ∧ Rp H e.d v ∧ DvAt H d g l ∧ e.ok g.length l.length ∧ e.deep < n ∧ Q (.bl (e.val g l)) H
theorem valof_no : ∀ vs H Q E, ¬ sp_valof 0 vs H Q E := fun vs H Q E ⟨_, _, _, _, _, _, _, _, _, h, _⟩ => Nat.not_lt_zero _ h
abbrev n_value_of : List Str := ["expression", "values", "form", "one", "two"]
theorem sc_value_of : FnScope n_value_of ["expression", "values"] (defScope s_value_of) := ⟨rfl, rfl, rfl, by decide +kernel, rfl, by decide +kernel, by decide +kernel⟩
theorem ok_valof {n m : Nat} (T : Env K mg) (c_value_of : Cal P w K mg base m "value_of" (sp_valof n) []) : Cal P w K mg base (m + 1) "value_of" (sp_valof (n + 1)) [] := by
  obtain ⟨fd, F⟩ := T.F_value_of
  refine cal_by F T.g_value_of (F.bindsN fun _ _ _ _ _ _ us hl => match us, hl with | [_, _], _ => rfl) sc_value_of (fun vs H Q E h => ?_) (fun cdv A outer s H vs Q E hr h => ?_)
  · obtain ⟨e, v, a, g, l, rfl, _⟩ := h
    rfl
  obtain ⟨e, v, a, g, l, rfl, hv, hva, ok, dp, k⟩ := h
  obtain ⟨ga, la, ha, hga, hla⟩ := id hva
  refine ⟨_, pss_cons (ps_set (i := 2) sc_value_of.nd rfl (Or.inl rfl) (pe_ix ix_tup (pv 0) pe_int (fun _ _ => rfl)))
      (pss_cons (ps_if (pt_cmpR op_eq (pv 2) pe_str (nomark _))
        (pss_one (ps_ret (pe_ix ix_tup (pv 0) pe_int (fun _ _ => rfl))))
        pss_nil)
      (pss_cons (ps_if (pt_cmpR op_eq (pv 2) pe_str (nomark _))
        (pss_one (ps_ret (pe_ix ix_tup (pe_dget (hu_of hr) (pv 1) (pe_ix ix_tup (pe_ix ix_tup (pv 0) pe_int (fun _ _ => rfl)) pe_int (fun _ _ => rfl)) (fun _ _ => rfl)) (pe_ix ix_tup (pe_ix ix_tup (pv 0) pe_int (fun _ _ => rfl)) pe_int (fun _ _ => rfl)) (fun _ _ => rfl))))
        pss_nil)
      (pss_cons (ps_if (pt_cmpR op_eq (pv 2) pe_str (nomark _))
        (pss_one (ps_ret (pe_not (pe_c c_value_of hr (by omega) rfl (pa_cons (pe_ix ix_tup (pv 0) pe_int (fun _ _ => rfl)) (pa_cons (pv 1) pa_nil))))))
        pss_nil)
      (pss_cons (ps_set (i := 3) sc_value_of.nd rfl (Or.inl rfl) (pe_c c_value_of hr (by omega) rfl (pa_cons (pe_ix ix_tup (pv 0) pe_int (fun _ _ => rfl)) (pa_cons (pv 1) pa_nil))))
      (pss_cons (ps_set (i := 4) sc_value_of.nd rfl (Or.inl rfl) (pe_c c_value_of hr (by omega) rfl (pa_cons (pe_ix ix_tup (pv 0) pe_int (fun _ _ => rfl)) (pa_cons (pv 1) pa_nil))))
      (pss_cons (ps_if (pt_cmpR op_eq (pv 2) pe_str (nomark _))
        (pss_one (ps_ret (pe_and (pv 3) (pe_one (pv 4)))))
        pss_nil)
      (pss_cons (ps_if (pt_cmpR op_eq (pv 2) pe_str (nomark _))
        (pss_one (ps_ret (pe_or (pv 3) (pe_one (pv 4)))))
        pss_nil)
      (pss_one (ps_ret (pe_cmpR op_eq (pv 3) (pv 4) (nomark _))))))))))), ?_⟩
  cases e with
  | tr b =>
    obtain ⟨q, xs, rfl, hq, _, _, rfl, rfl, _, _, rfl, rfl, rfl⟩ := hv
    refine ⟨_, rfl, q, _, _, _, rfl, rfl, SqT.of hq, rfl, ?_⟩
    refine ⟨_, rfl, rfl, _, rfl, if_t (by decide +kernel) ?_⟩
    exact ⟨_, rfl, q, _, _, _, rfl, rfl, SqT.of hq, rfl, k⟩
  | of x =>
    obtain ⟨q, xs, rfl, hq, _, _, rfl, rfl, u, _, rfl, hu, rfl⟩ := hv
    refine ⟨_, rfl, q, _, _, _, rfl, rfl, SqT.of hq, rfl, ?_⟩
    refine ⟨_, rfl, rfl, _, rfl, if_f (by decide +kernel) ?_⟩
    refine ⟨_, rfl, rfl, _, rfl, if_t (by decide +kernel) ?_⟩
    cases x with
    | g i =>
      obtain ⟨ua, us, rfl, hua, _, _, rfl, rfl, _, _, rfl, rfl, rfl⟩ := hu
      refine ⟨_, rfl, _, rfl, q, _, _, _, rfl, rfl, SqT.of hq, rfl, ua, _, _, _, rfl, rfl, SqT.of hua, rfl, a, _, rfl, (by rw [← dvs_g ga la]; exact DGet.k (k := Sum.inr "global") ha), ?_⟩
      exact ⟨_, rfl, q, _, _, _, rfl, rfl, SqT.of hq, rfl, ua, _, _, _, rfl, rfl, SqT.of hua, rfl, ga, _, _, _, rfl, rfl, SqT.of hga, at_bool ok, k⟩
    | l i =>
      obtain ⟨ua, us, rfl, hua, _, _, rfl, rfl, _, _, rfl, rfl, rfl⟩ := hu
      refine ⟨_, rfl, _, rfl, q, _, _, _, rfl, rfl, SqT.of hq, rfl, ua, _, _, _, rfl, rfl, SqT.of hua, rfl, a, _, rfl, (by rw [← dvs_l ga la]; exact DGet.k (k := Sum.inr "local") ha), ?_⟩
      exact ⟨_, rfl, q, _, _, _, rfl, rfl, SqT.of hq, rfl, ua, _, _, _, rfl, rfl, SqT.of hua, rfl, la, _, _, _, rfl, rfl, SqT.of hla, at_bool ok, k⟩
  | no x =>
    simp only [Ex.ok] at ok
    simp only [Ex.deep] at dp
    obtain ⟨q, xs, rfl, hq, _, _, rfl, rfl, u, _, rfl, hu, rfl⟩ := hv
    refine ⟨_, rfl, q, _, _, _, rfl, rfl, SqT.of hq, rfl, ?_⟩
    refine ⟨_, rfl, rfl, _, rfl, if_f (by decide +kernel) ?_⟩
    refine ⟨_, rfl, rfl, _, rfl, if_f (by decide +kernel) ?_⟩
    refine ⟨_, rfl, rfl, _, rfl, if_t (by decide +kernel) ?_⟩
    exact ⟨_, rfl, q, _, _, _, rfl, rfl, SqT.of hq, rfl, _, rfl, x, u, a, g, l, rfl, hu, hva, ok, by omega, _, rfl, k⟩
  | an x y =>
    simp only [Ex.ok] at ok
    simp only [Ex.deep] at dp
    obtain ⟨q, xs, rfl, hq, _, _, rfl, rfl, u, _, rfl, hu, u2, _, rfl, hu2, rfl⟩ := hv
    refine ⟨_, rfl, q, _, _, _, rfl, rfl, SqT.of hq, rfl, ?_⟩
    refine ⟨_, rfl, rfl, _, rfl, if_f (by decide +kernel) ?_⟩
    refine ⟨_, rfl, rfl, _, rfl, if_f (by decide +kernel) ?_⟩
    refine ⟨_, rfl, rfl, _, rfl, if_f (by decide +kernel) ?_⟩
    refine ⟨_, rfl, q, _, _, _, rfl, rfl, SqT.of hq, rfl, _, rfl, x, u, a, g, l, rfl, hu, hva, ok.1, by omega, ?_⟩
    refine ⟨_, rfl, q, _, _, _, rfl, rfl, SqT.of hq, rfl, _, rfl, y, u2, a, g, l, rfl, hu2, hva, ok.2, by omega, ?_⟩
    refine ⟨_, rfl, rfl, _, rfl, if_t (by decide +kernel) ?_⟩
    refine ⟨_, rfl, _, rfl, ?_⟩
    refine ite2 (fun c => ?_) (fun c => ?_)
    · refine ⟨_, rfl, ?_⟩
      have e2 : y.val g l = (Ex.an x y).val g l := by simp only [Ex.val]; rw [c, Bool.true_and]
      show Q (.bl (y.val g l)) H
      rw [e2]
      exact k
    · have e2 : false = (Ex.an x y).val g l := by simp only [Ex.val]; rw [Bool.eq_false_iff.mpr c, Bool.false_and]
      show Q (.bl false) H
      rw [e2]
      exact k
  | oo x y =>
    simp only [Ex.ok] at ok
    simp only [Ex.deep] at dp
    obtain ⟨q, xs, rfl, hq, _, _, rfl, rfl, u, _, rfl, hu, u2, _, rfl, hu2, rfl⟩ := hv
    refine ⟨_, rfl, q, _, _, _, rfl, rfl, SqT.of hq, rfl, ?_⟩
    refine ⟨_, rfl, rfl, _, rfl, if_f (by decide +kernel) ?_⟩
    refine ⟨_, rfl, rfl, _, rfl, if_f (by decide +kernel) ?_⟩
    refine ⟨_, rfl, rfl, _, rfl, if_f (by decide +kernel) ?_⟩
    refine ⟨_, rfl, q, _, _, _, rfl, rfl, SqT.of hq, rfl, _, rfl, x, u, a, g, l, rfl, hu, hva, ok.1, by omega, ?_⟩
    refine ⟨_, rfl, q, _, _, _, rfl, rfl, SqT.of hq, rfl, _, rfl, y, u2, a, g, l, rfl, hu2, hva, ok.2, by omega, ?_⟩
    refine ⟨_, rfl, rfl, _, rfl, if_f (by decide +kernel) ?_⟩
    refine ⟨_, rfl, rfl, _, rfl, if_t (by decide +kernel) ?_⟩
    refine ⟨_, rfl, _, rfl, ?_⟩
    refine ite2 (fun c => ?_) (fun c => ?_)
    · have e2 : true = (Ex.oo x y).val g l := by simp only [Ex.val]; rw [c, Bool.true_or]
      show Q (.bl true) H
      rw [e2]
      exact k
    · refine ⟨_, rfl, ?_⟩
      have e2 : y.val g l = (Ex.oo x y).val g l := by simp only [Ex.val]; rw [Bool.eq_false_iff.mpr c, Bool.false_or]
      show Q (.bl (y.val g l)) H
      rw [e2]
      exact k
  | sm x y =>
    simp only [Ex.ok] at ok
    simp only [Ex.deep] at dp
    obtain ⟨q, xs, rfl, hq, _, _, rfl, rfl, u, _, rfl, hu, u2, _, rfl, hu2, rfl⟩ := hv
    refine ⟨_, rfl, q, _, _, _, rfl, rfl, SqT.of hq, rfl, ?_⟩
    refine ⟨_, rfl, rfl, _, rfl, if_f (by decide +kernel) ?_⟩
    refine ⟨_, rfl, rfl, _, rfl, if_f (by decide +kernel) ?_⟩
    refine ⟨_, rfl, rfl, _, rfl, if_f (by decide +kernel) ?_⟩
    refine ⟨_, rfl, q, _, _, _, rfl, rfl, SqT.of hq, rfl, _, rfl, x, u, a, g, l, rfl, hu, hva, ok.1, by omega, ?_⟩
    refine ⟨_, rfl, q, _, _, _, rfl, rfl, SqT.of hq, rfl, _, rfl, y, u2, a, g, l, rfl, hu2, hva, ok.2, by omega, ?_⟩
    refine ⟨_, rfl, rfl, _, rfl, if_f (by decide +kernel) ?_⟩
    refine ⟨_, rfl, rfl, _, rfl, if_f (by decide +kernel) ?_⟩
    refine ⟨_, rfl, _, rfl, rfl, ?_⟩
    have e2 : decide (V.bl (x.val g l) = V.bl (y.val g l)) = (Ex.sm x y).val g l := by
      simp only [Ex.val]
      cases x.val g l <;> cases y.val g l <;> rfl
    rw [e2]
    exact k
/-! ### with_value -/
def sp_withv : Sp := fun vs H Q _ => ∃ (a : Addr) (g l : List Bool) (x : Vr) (v : V) (b : Bool), vs = [.ref a, v, .bl b] ∧ DvAt H a g l ∧ Rp H x.d v ∧ x.ok g.length l.length ∧ ∀ (r : Addr) (H' : Hp), Same H H' → H r = none → DvAt H' r (x.set g l b).1 (x.set g l b).2 → Q (.ref r) H'
abbrev n_with_value : List Str := ["values", "variable", "value", "changed", "row"]
theorem sc_with_value : FnScope n_with_value ["values", "variable", "value"] (defScope s_with_value) := ⟨rfl, rfl, rfl, by decide +kernel, rfl, by decide +kernel, by decide +kernel⟩
theorem ok_withv (T : Env K mg) : Cal P w K mg base 1 "with_value" sp_withv [] := by
  obtain ⟨fd, F⟩ := T.F_with_value
  refine cal_by F T.g_with_value (F.bindsN fun _ _ _ _ _ _ us hl => match us, hl with | [_, _, _], _ => rfl) sc_with_value (fun vs H Q E h => ?_) (fun cdv A outer s H vs Q E hr h => ?_)
  · obtain ⟨a, g, l, x, v, b, rfl, _⟩ := h
    rfl
  obtain ⟨a, g, l, x, v, b, rfl, ⟨ga, la, ha, hga, hla⟩, hv, ok, k⟩ := h
  refine ⟨_, pss_cons (ps_set (i := 3) sc_with_value.nd rfl (Or.inl rfl) (pe_callTy call_dictD (by rfl) T.f_dict (by decide +kernel) (pa_cons (pv 0) pa_nil)))
      (pss_cons (ps_set (i := 4) sc_with_value.nd rfl (Or.inl rfl) (pe_callTy call_list_of (by rfl) T.f_list (by decide +kernel) (pa_cons (pe_dget (hu_of hr) (pv 0) (pe_ix ix_tup (pv 1) pe_int (fun _ _ => rfl)) (fun _ _ => rfl)) pa_nil)))
      (pss_cons (ps_asg (pv 2) (pg_sub (pv 4) (pe_ix ix_tup (pv 1) pe_int (fun _ _ => rfl)) set_list))
      (pss_cons (ps_dput (hu_of hr) (pv 3) (pe_ix ix_tup (pv 1) pe_int (fun _ _ => rfl)) (pe_callTy call_tuple_of (by rfl) T.f_tuple (by decide +kernel) (pa_cons (pv 4) pa_nil)) rfl)
      (pss_one (ps_ret (pv 3)))))), ?_⟩
  refine ⟨_, rfl, a, _, rfl, .inl ha, fun d hd => ?_⟩
  have s1 := same_upd (o := .dK (dvs2 ga la)) hd
  have hd1 : (upd H d (.dK (dvs2 ga la))) d = some (.dK (dvs2 ga la)) := upd_same
  have nd : a ≠ d := ne_of_none ha hd
  generalize upd H d (.dK (dvs2 ga la)) = H1 at *
  cases x with
  | g i =>
    obtain ⟨ua, us, rfl, hua, _, _, rfl, rfl, _, _, rfl, rfl, rfl⟩ := hv
    refine ⟨_, rfl, _, rfl, ua, _, _, _, rfl, rfl, SqT.of (s1 _ _ hua), rfl, a, _, rfl, (by rw [← dvs_g ga la]; exact DGet.k (k := Sum.inr "global") (s1 _ _ ha)), ga, _, rfl, .inr (SqT.of (s1 _ _ hga)), fun r hr => ?_⟩
    have s2 := s1.new (o := .lst (g.map .bl)) hr
    have hd2 := same_upd (o := .lst (g.map .bl)) hr _ _ hd1
    have hr0 := s1.free hr
    have hrd : d ≠ r := ne_of_none hd1 hr
    refine ⟨_, rfl, _, rfl, _, rfl, ua, _, _, _, rfl, rfl, SqT.of (s2 _ _ hua), rfl, r, _, _, i, rfl, rfl, upd_same, ?_, ?_⟩
    · have : i < g.length := ok
      unfold ixN
      rw [List.length_map, if_pos (by omega), if_pos (by omega), Int.toNat_natCast]
    rw [upd_upd]
    have s3 := s1.mut (o := .lst ((g.map V.bl).set i (.bl b))) hr0
    have hd3 : (upd H1 r (.lst ((g.map V.bl).set i (.bl b)))) d = some (.dK (dvs2 ga la)) := by rw [upd_ne hrd]; exact hd1
    have hr3 : (upd H1 r (.lst ((g.map V.bl).set i (.bl b)))) r = some (.lst ((g.set i b).map V.bl)) := by rw [upd_same, List.map_set]
    generalize upd H1 r (.lst ((g.map V.bl).set i (.bl b))) = H3 at *
    refine ⟨_, rfl, r, _, rfl, .inl ⟨SqL.of hr3, fun t ht => ?_⟩⟩
    refine ⟨_, rfl, _, rfl, ua, _, _, _, rfl, rfl, SqT.of ((s3.new ht) _ _ hua), rfl, d, _, rfl, DPut.k (k := Sum.inr "global") (same_upd ht _ _ hd3) (by show 2 < sizeLine; decide), ?_⟩
    refine ⟨_, rfl, ?_⟩
    rw [dvs_pg]
    have tne : t ≠ d := Ne.symm (ne_of_none hd3 ht)
    refine k d _ ((s3.new ht).mut hd) hd ?_
    exact ⟨t, la, upd_same, by rw [upd_ne tne]; exact upd_same, by rw [upd_ne (ne_of_none hla hd)]; exact (s3.new ht) _ _ hla⟩
  | l i =>
    obtain ⟨ua, us, rfl, hua, _, _, rfl, rfl, _, _, rfl, rfl, rfl⟩ := hv
    refine ⟨_, rfl, _, rfl, ua, _, _, _, rfl, rfl, SqT.of (s1 _ _ hua), rfl, a, _, rfl, (by rw [← dvs_l ga la]; exact DGet.k (k := Sum.inr "local") (s1 _ _ ha)), la, _, rfl, .inr (SqT.of (s1 _ _ hla)), fun r hr => ?_⟩
    have s2 := s1.new (o := .lst (l.map .bl)) hr
    have hd2 := same_upd (o := .lst (l.map .bl)) hr _ _ hd1
    have hr0 := s1.free hr
    have hrd : d ≠ r := ne_of_none hd1 hr
    refine ⟨_, rfl, _, rfl, _, rfl, ua, _, _, _, rfl, rfl, SqT.of (s2 _ _ hua), rfl, r, _, _, i, rfl, rfl, upd_same, ?_, ?_⟩
    · have : i < l.length := ok
      unfold ixN
      rw [List.length_map, if_pos (by omega), if_pos (by omega), Int.toNat_natCast]
    rw [upd_upd]
    have s3 := s1.mut (o := .lst ((l.map V.bl).set i (.bl b))) hr0
    have hd3 : (upd H1 r (.lst ((l.map V.bl).set i (.bl b)))) d = some (.dK (dvs2 ga la)) := by rw [upd_ne hrd]; exact hd1
    have hr3 : (upd H1 r (.lst ((l.map V.bl).set i (.bl b)))) r = some (.lst ((l.set i b).map V.bl)) := by rw [upd_same, List.map_set]
    generalize upd H1 r (.lst ((l.map V.bl).set i (.bl b))) = H3 at *
    refine ⟨_, rfl, r, _, rfl, .inl ⟨SqL.of hr3, fun t ht => ?_⟩⟩
    refine ⟨_, rfl, _, rfl, ua, _, _, _, rfl, rfl, SqT.of ((s3.new ht) _ _ hua), rfl, d, _, rfl, DPut.k (k := Sum.inr "local") (same_upd ht _ _ hd3) (by show 2 < sizeLine; decide), ?_⟩
    refine ⟨_, rfl, ?_⟩
    rw [dvs_pl]
    have tne : t ≠ d := Ne.symm (ne_of_none hd3 ht)
    refine k d _ ((s3.new ht).mut hd) hd ?_
    exact ⟨ga, t, upd_same, by rw [upd_ne (ne_of_none hga hd)]; exact (s3.new ht) _ _ hga, by rw [upd_ne tne]; exact upd_same⟩
/-! ### bodies -/
def sp_bods : Sp := fun vs H Q _ => ∃ (s : Sm) (v : V), vs = [v] ∧ Rp H s.d v ∧ ∀ (p : Addr) (xs : List V) (H' : Hp), Same H H' → H' p = some (.tup xs) → RpAll H' (s.bods.map fun b => .tuple (bdD b)) xs → Q (.ref p) H'
abbrev n_bodies : List Str := ["statement"]
theorem sc_bodies : FnScope n_bodies ["statement"] (defScope s_bodies) := ⟨rfl, rfl, rfl, by decide +kernel, rfl, by decide +kernel, by decide +kernel⟩
theorem ok_bods (T : Env K mg) : Cal P w K mg base 1 "bodies" sp_bods [] := by
  obtain ⟨fd, F⟩ := T.F_bodies
  refine cal_by F T.g_bodies (F.bindsN fun _ _ _ _ _ _ us hl => match us, hl with | [_], _ => rfl) sc_bodies (fun vs H Q E h => ?_) (fun cdv A outer s H vs Q E hr h => ?_)
  · obtain ⟨s, v, rfl, _⟩ := h
    rfl
  obtain ⟨s, v, rfl, hv, k⟩ := h
  refine ⟨_, pss_cons (ps_if (pt_cmpR op_eq (pe_ix ix_tup (pv 0) pe_int (fun _ _ => rfl)) pe_str (nomark _))
        (pss_one (ps_ret (pe_tup (pa_cons (pe_ix ix_tup (pv 0) pe_int (fun _ _ => rfl)) (pa_cons (pe_ix ix_tup (pv 0) pe_int (fun _ _ => rfl)) pa_nil)))))
        pss_nil)
      (pss_cons (ps_if (pt_cmpR op_eq (pe_ix ix_tup (pv 0) pe_int (fun _ _ => rfl)) pe_str (nomark _))
        (pss_one (ps_ret (pe_tup (pa_cons (pe_ix ix_tup (pv 0) pe_int (fun _ _ => rfl)) (pa_cons (pe_ix ix_tup (pv 0) pe_int (fun _ _ => rfl)) pa_nil)))))
        pss_nil)
      (pss_cons (ps_if (pt_cmpR op_eq (pe_ix ix_tup (pv 0) pe_int (fun _ _ => rfl)) pe_str (nomark _))
        (pss_one (ps_ret (pe_tup (pa_cons (pe_ix ix_tup (pv 0) pe_int (fun _ _ => rfl)) pa_nil))))
        pss_nil)
      (pss_cons (ps_if (pt_cmpR op_eq (pe_ix ix_tup (pv 0) pe_int (fun _ _ => rfl)) pe_str (nomark _))
        (pss_one (ps_ret (pe_tup (pa_cons (pe_ix ix_tup (pv 0) pe_int (fun _ _ => rfl)) pa_nil))))
        pss_nil)
      (pss_one (ps_ret (pe_tup pa_nil)))))), ?_⟩
  have fin : ∀ (xs : List V), RpAll H (s.bods.map fun b => .tuple (bdD b)) xs → ∀ p, H p = none → Q (.ref p) (upd H p (.tup xs)) := fun xs rx p hp =>
    k p xs _ (same_upd hp) upd_same (RpAll.at (same_upd hp).tups _ _ rx)
  cases s with
  | ite e a b =>
    obtain ⟨q, xs, rfl, hq, _, _, rfl, rfl, ve, _, rfl, re, va, _, rfl, ra, vb, _, rfl, rb, rfl⟩ := hv
    refine ⟨_, rfl, q, _, _, _, rfl, rfl, SqT.of hq, at0, rfl, _, rfl, if_t (by decide +kernel) ?_⟩
    exact ⟨_, rfl, q, _, _, _, rfl, rfl, SqT.of hq, rfl, _, rfl, q, _, _, _, rfl, rfl, SqT.of hq, rfl, (by show 2 ≤ sizeLine; decide), fin _ (.cons ra (.one rb))⟩
  | ei a b =>
    obtain ⟨q, xs, rfl, hq, _, _, rfl, rfl, va, _, rfl, ra, vb, _, rfl, rb, rfl⟩ := hv
    refine ⟨_, rfl, q, _, _, _, rfl, rfl, SqT.of hq, at0, rfl, _, rfl, if_f (by decide +kernel) ?_⟩
    refine ⟨_, rfl, q, _, _, _, rfl, rfl, SqT.of hq, at0, rfl, _, rfl, if_t (by decide +kernel) ?_⟩
    exact ⟨_, rfl, q, _, _, _, rfl, rfl, SqT.of hq, rfl, _, rfl, q, _, _, _, rfl, rfl, SqT.of hq, rfl, (by show 2 ≤ sizeLine; decide), fin _ (.cons ra (.one rb))⟩
  | wh e a =>
    obtain ⟨q, xs, rfl, hq, _, _, rfl, rfl, ve, _, rfl, re, va, _, rfl, ra, rfl⟩ := hv
    refine ⟨_, rfl, q, _, _, _, rfl, rfl, SqT.of hq, at0, rfl, _, rfl, if_f (by decide +kernel) ?_⟩
    refine ⟨_, rfl, q, _, _, _, rfl, rfl, SqT.of hq, at0, rfl, _, rfl, if_f (by decide +kernel) ?_⟩
    refine ⟨_, rfl, q, _, _, _, rfl, rfl, SqT.of hq, at0, rfl, _, rfl, if_t (by decide +kernel) ?_⟩
    exact ⟨_, rfl, q, _, _, _, rfl, rfl, SqT.of hq, rfl, (by show 1 ≤ sizeLine; decide), fin _ (.one ra)⟩
  | rp a =>
    obtain ⟨q, xs, rfl, hq, _, _, rfl, rfl, va, _, rfl, ra, rfl⟩ := hv
    refine ⟨_, rfl, q, _, _, _, rfl, rfl, SqT.of hq, at0, rfl, _, rfl, if_f (by decide +kernel) ?_⟩
    refine ⟨_, rfl, q, _, _, _, rfl, rfl, SqT.of hq, at0, rfl, _, rfl, if_f (by decide +kernel) ?_⟩
    refine ⟨_, rfl, q, _, _, _, rfl, rfl, SqT.of hq, at0, rfl, _, rfl, if_f (by decide +kernel) ?_⟩
    refine ⟨_, rfl, q, _, _, _, rfl, rfl, SqT.of hq, at0, rfl, _, rfl, if_t (by decide +kernel) ?_⟩
    exact ⟨_, rfl, q, _, _, _, rfl, rfl, SqT.of hq, rfl, (by show 1 ≤ sizeLine; decide), fin _ (.one ra)⟩
  | set x e =>
    obtain ⟨q, xs, rfl, hq, _, _, rfl, rfl, _⟩ := hv
    refine ⟨_, rfl, q, _, _, _, rfl, rfl, SqT.of hq, at0, rfl, _, rfl, if_f (by decide +kernel) ?_⟩
    refine ⟨_, rfl, q, _, _, _, rfl, rfl, SqT.of hq, at0, rfl, _, rfl, if_f (by decide +kernel) ?_⟩
    refine ⟨_, rfl, q, _, _, _, rfl, rfl, SqT.of hq, at0, rfl, _, rfl, if_f (by decide +kernel) ?_⟩
    refine ⟨_, rfl, q, _, _, _, rfl, rfl, SqT.of hq, at0, rfl, _, rfl, if_f (by decide +kernel) ?_⟩
    exact ⟨Nat.zero_le _, fin _ rfl⟩
  | free x =>
    obtain ⟨q, xs, rfl, hq, _, _, rfl, rfl, _⟩ := hv
    refine ⟨_, rfl, q, _, _, _, rfl, rfl, SqT.of hq, at0, rfl, _, rfl, if_f (by decide +kernel) ?_⟩
    refine ⟨_, rfl, q, _, _, _, rfl, rfl, SqT.of hq, at0, rfl, _, rfl, if_f (by decide +kernel) ?_⟩
    refine ⟨_, rfl, q, _, _, _, rfl, rfl, SqT.of hq, at0, rfl, _, rfl, if_f (by decide +kernel) ?_⟩
    refine ⟨_, rfl, q, _, _, _, rfl, rfl, SqT.of hq, at0, rfl, _, rfl, if_f (by decide +kernel) ?_⟩
    exact ⟨Nat.zero_le _, fin _ rfl⟩
  | call x =>
    obtain ⟨q, xs, rfl, hq, _, _, rfl, rfl, _⟩ := hv
    refine ⟨_, rfl, q, _, _, _, rfl, rfl, SqT.of hq, at0, rfl, _, rfl, if_f (by decide +kernel) ?_⟩
    refine ⟨_, rfl, q, _, _, _, rfl, rfl, SqT.of hq, at0, rfl, _, rfl, if_f (by decide +kernel) ?_⟩
    refine ⟨_, rfl, q, _, _, _, rfl, rfl, SqT.of hq, at0, rfl, _, rfl, if_f (by decide +kernel) ?_⟩
    refine ⟨_, rfl, q, _, _, _, rfl, rfl, SqT.of hq, at0, rfl, _, rfl, if_f (by decide +kernel) ?_⟩
    exact ⟨Nat.zero_le _, fin _ rfl⟩
  | ret =>
    obtain ⟨q, xs, rfl, hq, _, _, rfl, rfl, _⟩ := hv
    refine ⟨_, rfl, q, _, _, _, rfl, rfl, SqT.of hq, at0, rfl, _, rfl, if_f (by decide +kernel) ?_⟩
    refine ⟨_, rfl, q, _, _, _, rfl, rfl, SqT.of hq, at0, rfl, _, rfl, if_f (by decide +kernel) ?_⟩
    refine ⟨_, rfl, q, _, _, _, rfl, rfl, SqT.of hq, at0, rfl, _, rfl, if_f (by decide +kernel) ?_⟩
    refine ⟨_, rfl, q, _, _, _, rfl, rfl, SqT.of hq, at0, rfl, _, rfl, if_f (by decide +kernel) ?_⟩
    exact ⟨Nat.zero_le _, fin _ rfl⟩
  | pass x =>
    obtain ⟨q, xs, rfl, hq, _, _, rfl, rfl, _⟩ := hv
    refine ⟨_, rfl, q, _, _, _, rfl, rfl, SqT.of hq, at0, rfl, _, rfl, if_f (by decide +kernel) ?_⟩
    refine ⟨_, rfl, q, _, _, _, rfl, rfl, SqT.of hq, at0, rfl, _, rfl, if_f (by decide +kernel) ?_⟩
    refine ⟨_, rfl, q, _, _, _, rfl, rfl, SqT.of hq, at0, rfl, _, rfl, if_f (by decide +kernel) ?_⟩
    refine ⟨_, rfl, q, _, _, _, rfl, rfl, SqT.of hq, at0, rfl, _, rfl, if_f (by decide +kernel) ?_⟩
    exact ⟨Nat.zero_le _, fin _ rfl⟩
end
end Pr
/-! The program: what is right about a program (Scope), Program itself. -/
namespace Pr
open PySem PySem.Spec PyProof.Rows L2 RT
open C8 (Cal Met Mak pe_c pe_mk pe_mt pe_mt0)
abbrev dv2 (x y : V) : List (Key × V) := [(Sum.inr "global", x), (Sum.inr "local", y)]
theorem dv_g (x y : V) : valV (dv2 x y) (Sum.inr "global") = some x := valV_pos rfl
theorem dv_l (x y : V) : valV (dv2 x y) (Sum.inr "local") = some y := (valV_neg ng).trans (valV_pos rfl)
theorem made {H : Hp} {x dx : Addr} {o u : HO} (h1 : H x = none) (h2 : H dx = none) : Same H (upd (upd H dx o) x u) := (same_upd h2).mut h1
section
variable {P : Program} {w : World} {K : PySem.W.Frag} {mg : Str → Option Value} {base : Heap}
def ScAt (K : PySem.W.Frag) (H : Hp) (a : Addr) (gc lc np : Nat) : Prop := ∃ dx d : Addr, H a = some (.ins (He.ga K "Scope") dx [("counts", .ref d), ("procedure_count", .int np)]) ∧ H d = some (.dK (dv2 (.int gc) (.int lc)))
theorem ScAt.same {H H' : Hp} {a : Addr} {gc lc np : Nat} (h : ScAt K H a gc lc np) (e : Same H H') : ScAt K H' a gc lc np := let ⟨dx, d, h1, h2⟩ := h; ⟨dx, d, e _ _ h1, e _ _ h2⟩
def sp_scope (K : PySem.W.Frag) : Sp := fun vs H Q _ => ∃ (x dx : Addr) (gc lc np : Nat) (H0 : Hp), vs = [.ref x, .int gc, .int lc, .int np] ∧ Same H0 H ∧ H0 x = none ∧ H x = some (.ins (He.ga K "Scope") dx []) ∧
  ∀ H', Same H0 H' → ScAt K H' x gc lc np → Q .non H'
abbrev n_Scope___init__ : List Str := ["self", "global_count", "local_count", "procedure_count"]
theorem sc_Scope___init__ : FnScope n_Scope___init__ ["self", "global_count", "local_count", "procedure_count"] (defScope s_Scope___init__) := ⟨rfl, rfl, rfl, by decide +kernel, rfl, by decide +kernel, by decide +kernel⟩
theorem ok_scope (T : Env K mg) : Mak P w K mg base 1 "Scope" (He.ga K "Scope") (sp_scope K) [] := by
  obtain ⟨fd, F⟩ := T.F_Scope___init__
  refine mak_by F T.k_Scope T.g_Scope (F.bindsN fun _ _ _ _ _ _ us hl => match us, hl with | [_, _, _, _], _ => rfl) .nil sc_Scope___init__ (fun vs H Q E h => ?_) (fun cdv A outer s H vs Q E hr h => ?_)
  · obtain ⟨x, dx, gc, lc, np, H0, rfl, _⟩ := h
    rfl
  obtain ⟨x, dx, gc, lc, np, H0, rfl, sm, hx0, hx, k⟩ := h
  refine ⟨_, pss_cons (ps_fld (pv 0) (pe_disp (pps_cons pe_str (pv 1) (pps_cons pe_str (pv 2) pps_nil)) (by rfl) (by rfl) (fun z => by cases z) (by decide)) rfl)
      (pss_one (ps_fld (pv 0) (pv 3) rfl)), ?_⟩
  refine fun d hd => ⟨_, rfl, _, rfl, upd_same, dv2 (.int gc) (.int lc), rfl, (by show 2 ≤ 15; decide), ?_⟩
  have e : mergeK [] (dv2 (.int gc) (.int lc)) = dv2 (.int gc) (.int lc) := by simp [mergeK, putK, ngS]
  rw [e, upd_upd]
  have sm1 := sm.new (o := .dK (dv2 (.int gc) (.int lc))) hd
  have hx1 := same_upd (o := .dK (dv2 (.int gc) (.int lc))) hd _ _ hx
  have hd1 : (upd H d (.dK (dv2 (.int gc) (.int lc)))) d = some (.dK (dv2 (.int gc) (.int lc))) := upd_same
  have ne : d ≠ x := Ne.symm (ne_of_none hx hd)
  generalize upd H d (.dK (dv2 (.int gc) (.int lc))) = H1 at *
  refine ⟨_, rfl, x, _, dx, _, rfl, hx1, T.c_Scope, T.n_Scope_counts, (by show 0 < 1000; decide), ?_⟩
  refine ⟨_, rfl, _, rfl, x, _, dx, _, rfl, upd_same, T.c_Scope, T.n_Scope_procedure_count, (by show 1 < 1000; decide), ?_⟩
  rw [upd_upd]
  exact k _ (sm1.mut hx0) ⟨dx, d, upd_same, by rw [upd_ne ne]; exact hd1⟩
def sp_hasv (K : PySem.W.Frag) : Sp := fun vs H Q _ => ∃ (a : Addr) (gc lc np : Nat) (x : Vr) (v : V), vs = [.ref a, v] ∧ ScAt K H a gc lc np ∧ Rp H x.d v ∧ x.ok gc lc ∧ Q (.bl true) H
abbrev n_Scope_has_variable : List Str := ["self", "variable"]
theorem sc_Scope_has_variable : FnScope n_Scope_has_variable ["self", "variable"] (defScope s_Scope_has_variable) := ⟨rfl, rfl, rfl, by decide +kernel, rfl, by decide +kernel, by decide +kernel⟩
theorem ok_hasv (T : Env K mg) : Met P w K mg base 1 (He.ga K "Scope") "has_variable" (sp_hasv K) [] := by
  obtain ⟨fd, F⟩ := T.F_Scope_has_variable
  refine met_by F T.c_Scope T.m_Scope_has_variable (F.bindsN fun _ _ _ _ _ _ us hl => match us, hl with | [_, _], _ => rfl) sc_Scope_has_variable (fun vs H Q E h => ?_) (fun cdv A outer s H vs Q E hr h => ?_)
  · obtain ⟨a, gc, lc, np, x, v, rfl, _⟩ := h
    rfl
  obtain ⟨a, gc, lc, np, x, v, rfl, ⟨dx, d, ha, hd⟩, hv, ok, k⟩ := h
  refine ⟨_, pss_one (ps_ret (pe_chain op_le op_lt pe_int (pe_ix ix_tup (pv 1) pe_int (fun _ _ => rfl)) (pe_dget (hu_of hr) (pe_fld (pv 0) rfl) (pe_ix ix_tup (pv 1) pe_int (fun _ _ => rfl)) (fun _ _ => rfl)) (by with_unfolding_all rfl))), ?_⟩
  cases x with
  | g i =>
    obtain ⟨ua, us, rfl, hua, _, _, rfl, rfl, _, _, rfl, rfl, rfl⟩ := hv
    have hok : i < gc := ok
    refine ⟨_, rfl, ua, _, _, _, rfl, rfl, SqT.of hua, rfl, _, _, rfl, rfl, _, rfl, ?_⟩
    rw [if_pos (by simp)]
    refine ⟨_, rfl, a, _, dx, _, _, rfl, ha, T.c_Scope, T.n_Scope_counts, rfl, _, rfl, ua, _, _, _, rfl, rfl, SqT.of hua, rfl, d, _, rfl, (by rw [← dv_g (.int gc) (.int lc)]; exact DGet.k (k := Sum.inr "global") hd), ?_⟩
    refine ⟨_, _, rfl, rfl, ?_⟩
    show Q (.bl (decide ((i : Int) < (gc : Int)))) H
    rw [decide_eq_true (Int.ofNat_lt.mpr hok)]
    exact k
  | l i =>
    obtain ⟨ua, us, rfl, hua, _, _, rfl, rfl, _, _, rfl, rfl, rfl⟩ := hv
    have hok : i < lc := ok
    refine ⟨_, rfl, ua, _, _, _, rfl, rfl, SqT.of hua, rfl, _, _, rfl, rfl, _, rfl, ?_⟩
    rw [if_pos (by simp)]
    refine ⟨_, rfl, a, _, dx, _, _, rfl, ha, T.c_Scope, T.n_Scope_counts, rfl, _, rfl, ua, _, _, _, rfl, rfl, SqT.of hua, rfl, d, _, rfl, (by rw [← dv_l (.int gc) (.int lc)]; exact DGet.k (k := Sum.inr "local") hd), ?_⟩
    refine ⟨_, _, rfl, rfl, ?_⟩
    show Q (.bl (decide ((i : Int) < (lc : Int)))) H
    rw [decide_eq_true (Int.ofNat_lt.mpr hok)]
    exact k
def sp_hasvs (K : PySem.W.Frag) (n : Nat) : Sp := fun vs H Q _ => ∃ (a : Addr) (gc lc np : Nat) (e : Ex) (v : V), vs = [.ref a, v] ∧ ScAt K H a gc lc np ∧ Rp H e.d v ∧ e.ok gc lc ∧ e.deep < n ∧ ∀ H', Same H H' → Q (.bl true) H'
theorem hasvs_no : ∀ vs H Q E, ¬ sp_hasvs K 0 vs H Q E := fun vs H Q E ⟨_, _, _, _, _, _, _, _, _, _, h, _⟩ => Nat.not_lt_zero _ h
abbrev n_Scope_has_variables : List Str := ["self", "expression", "part"]
theorem sc_Scope_has_variables : FnScope n_Scope_has_variables ["self", "expression"] (defScope s_Scope_has_variables) := ⟨rfl, rfl, rfl, by decide +kernel, rfl, by decide +kernel, by decide +kernel⟩
theorem ok_hasvs {n m : Nat} (T : Env K mg) (hm : 1 ≤ m) (c_Scope_has_variable : Met P w K mg base 1 (He.ga K "Scope") "has_variable" (sp_hasv K) []) (c_Scope_has_variables : Met P w K mg base m (He.ga K "Scope") "has_variables" (sp_hasvs K n) []) :
    Met P w K mg base (m + 1) (He.ga K "Scope") "has_variables" (sp_hasvs K (n + 1)) [] := by
  obtain ⟨fd, F⟩ := T.F_Scope_has_variables
  refine met_by F T.c_Scope T.m_Scope_has_variables (F.bindsN fun _ _ _ _ _ _ us hl => match us, hl with | [_, _], _ => rfl) sc_Scope_has_variables (fun vs H Q E h => ?_) (fun cdv A outer s H vs Q E hr h => ?_)
  · obtain ⟨a, gc, lc, np, e, v, rfl, _⟩ := h
    rfl
  obtain ⟨a, gc, lc, np, e, v, rfl, hs, hv, ok, dp, k⟩ := h
  have hins : ∀ {H1 : Hp}, Same H H1 → ∃ dx d : Addr, H1 a = some (.ins (He.ga K "Scope") dx [("counts", .ref d), ("procedure_count", .int np)]) := fun sm => let ⟨dx, d, h1, _⟩ := hs; ⟨dx, d, sm _ _ h1⟩
  refine ⟨_, pss_cons (ps_if (pt_cmpR op_eq (pe_ix ix_tup (pv 1) pe_int (fun _ _ => rfl)) pe_str (nomark _))
        (pss_one (ps_ret pe_bl))
        pss_nil)
      (pss_cons (ps_if (pt_cmpR op_eq (pe_ix ix_tup (pv 1) pe_int (fun _ _ => rfl)) pe_str (nomark _))
        (pss_one (ps_ret (pe_mt c_Scope_has_variable hr (by omega) (pv 0) (pa_cons (pe_ix ix_tup (pv 1) pe_int (fun _ _ => rfl)) pa_nil))))
        pss_nil)
      (pss_one (ps_ret (pe_callB (cr_all rfl) (by rfl) T.f_all (by decide +kernel) (pa_cons (pe_lc (own := [("part", 2)]) (g := gName 2) (by rfl) sc_Scope_has_variables.nd (pi_tup (pe_slice sl_tupA (pv 1) (po_some pe_int) po_none)) (blkOk_by (own := [("part", 2)]) (N := n_Scope_has_variables) (sc := defScope s_Scope_has_variables) (by decide +kernel)) (fun _ _ _ _ _ => (pg_name (i := 2) sc_Scope_has_variables.nd rfl (Or.inl rfl))) (fun _ _ _ _ _ => pts_nil) (fun _ _ _ _ _ => (pe_mt c_Scope_has_variables hr (by omega) (pv 0) (pa_cons (pv 2) pa_nil)))) pa_nil))))), ?_⟩
  have op : (∃ b, e = .tr b) ∨ (∃ x, e = .of x) ∨ ∃ (s : Str) (es : List Ex), e.d = .tuple (.str s :: es.map Ex.d) ∧ (∀ x ∈ es, x.ok gc lc ∧ x.deep < n) ∧ es.length ≤ 2 ∧ decide (V.str s = V.str "truth") = false ∧ decide (V.str s = V.str "of") = false := by
    cases e with
    | tr b => exact .inl ⟨b, rfl⟩
    | of x => exact .inr (.inl ⟨x, rfl⟩)
    | no a =>
      simp only [Ex.ok] at ok
      simp only [Ex.deep] at dp
      refine .inr (.inr ⟨"not", [a], rfl, fun x hx => ?_, by simp, by decide +kernel, by decide +kernel⟩)
      simp at hx
      subst hx
      exact ⟨ok, by omega⟩
    | an a b =>
      simp only [Ex.ok] at ok
      simp only [Ex.deep] at dp
      refine .inr (.inr ⟨"and", [a, b], rfl, fun x hx => ?_, by simp, by decide +kernel, by decide +kernel⟩)
      simp at hx
      rcases hx with rfl | rfl
      · exact ⟨ok.1, by omega⟩
      · exact ⟨ok.2, by omega⟩
    | oo a b =>
      simp only [Ex.ok] at ok
      simp only [Ex.deep] at dp
      refine .inr (.inr ⟨"or", [a, b], rfl, fun x hx => ?_, by simp, by decide +kernel, by decide +kernel⟩)
      simp at hx
      rcases hx with rfl | rfl
      · exact ⟨ok.1, by omega⟩
      · exact ⟨ok.2, by omega⟩
    | sm a b =>
      simp only [Ex.ok] at ok
      simp only [Ex.deep] at dp
      refine .inr (.inr ⟨"same", [a, b], rfl, fun x hx => ?_, by simp, by decide +kernel, by decide +kernel⟩)
      simp at hx
      rcases hx with rfl | rfl
      · exact ⟨ok.1, by omega⟩
      · exact ⟨ok.2, by omega⟩
  rcases op with ⟨b, rfl⟩ | ⟨x, rfl⟩ | ⟨s, es, ed, hes, hel, h1, h2⟩
  · obtain ⟨q, xs, rfl, hq, _, _, rfl, rfl, _, _, rfl, rfl, rfl⟩ := hv
    refine ⟨_, rfl, q, _, _, _, rfl, rfl, SqT.of hq, rfl, rfl, _, rfl, if_t (by decide +kernel) ?_⟩
    exact k H (Same.refl H)
  · obtain ⟨q, xs, rfl, hq, _, _, rfl, rfl, u, _, rfl, hu, rfl⟩ := hv
    refine ⟨_, rfl, q, _, _, _, rfl, rfl, SqT.of hq, rfl, rfl, _, rfl, if_f (by decide +kernel) ?_⟩
    refine ⟨_, rfl, q, _, _, _, rfl, rfl, SqT.of hq, rfl, rfl, _, rfl, if_t (by decide +kernel) ?_⟩
    obtain ⟨dx, d, ha⟩ := hins (Same.refl H)
    exact ⟨_, rfl, a, dx, _, rfl, ha, rfl, _, rfl, q, _, _, _, rfl, rfl, SqT.of hq, rfl, a, gc, lc, np, x, u, rfl, hs, hu, ok, k H (Same.refl H)⟩
  rw [ed] at hv
  obtain ⟨q, xs, rfl, hq, _, vs, rfl, rfl, hvs⟩ := hv
  refine ⟨_, rfl, q, _, _, _, rfl, rfl, SqT.of hq, at0, rfl, _, rfl, if_f h1 ?_⟩
  refine ⟨_, rfl, q, _, _, _, rfl, rfl, SqT.of hq, at0, rfl, _, rfl, if_f h2 ?_⟩
  refine ⟨_, rfl, 1, rfl, q, _, rfl, SqT.of hq, (fun z => absurd z (cut1_not _ _)), fun _ p hp => ?_⟩
  have hp1 : (upd H p (.tup (cutV (V.str s :: vs) (some 1) none))) p = some (.tup vs) := by rw [upd_same, cut1]
  have sp1 : Same H (upd H p (.tup (cutV (V.str s :: vs) (some 1) none))) := same_upd hp
  generalize upd H p (.tup (cutV (V.str s :: vs) (some 1) none)) = H1 at *
  refine ⟨p, rfl, ⟨_, SqT.of hp1⟩, fun D hD => ?_⟩
  have hvl : vs.length = es.length := by rw [hvs.len, List.length_map]
  refine lc_it (walk_tup (K := K) (a := p) (xs := vs)) (fun j H3 => Same H1 H3 ∧ H3 D = some (.lst ((List.replicate j true).map V.bl))) ⟨same_upd hD, upd_same⟩ (fun j H3 _ z => SqT.of (z.1 _ _ hp1)) ?_ ?_
  · rintro j y _ H3 hj ⟨sm3, hD3⟩ ⟨rfl, hyj⟩
    obtain ⟨d, hdj, rdj⟩ := hvs.getV hyj
    rw [List.getElem?_map] at hdj
    obtain ⟨c, hc, rfl⟩ := Option.map_eq_some_iff.mp hdj
    obtain ⟨okc, dpc⟩ := hes c (List.mem_of_getElem? hc)
    have s3 := sp1.trans sm3
    obtain ⟨dx, dd, ha⟩ := hins s3
    refine ⟨rfl, ?_⟩
    dsimp only [tYes]
    refine iteT ?_
    refine ⟨_, rfl, a, dx, _, rfl, ha, rfl, _, rfl, a, gc, lc, np, c, y, rfl, hs.same s3, Rp.at s3.tups _ _ rdj, okc, dpc, fun H4 sm4 => ⟨_, sm4 _ _ hD3, smallL (by rw [List.length_map, List.length_replicate]; omega), (sm3.trans sm4).mut hD, ?_⟩⟩
    rw [upd_same, List.replicate_succ', List.map_append]
    rfl
  rintro H3 ⟨sm3, hD3⟩
  refine ⟨D, _, rfl, SqL.of hD3, ?_⟩
  have e : (List.replicate vs.length true).all id = true := by simp
  rw [e]
  exact k H3 (sp1.trans sm3)
def sp_isr (K : PySem.W.Frag) : Sp := fun vs H Q _ => ∃ (a : Addr) (gc lc np : Nat) (s : Sm) (v : V), vs = [.ref a, v] ∧ ScAt K H a gc lc np ∧ Rp H s.d v ∧ s.ok gc lc np ∧ ∀ H', Same H H' → Q (.bl true) H'
abbrev n_Scope_is_right : List Str := ["self", "statement", "form"]
theorem sc_Scope_is_right : FnScope n_Scope_is_right ["self", "statement"] (defScope s_Scope_is_right) := ⟨rfl, rfl, rfl, by decide +kernel, rfl, by decide +kernel, by decide +kernel⟩
theorem ok_isr (T : Env K mg) (c_Scope_has_variable : Met P w K mg base 1 (He.ga K "Scope") "has_variable" (sp_hasv K) []) (c_Scope_has_variables : Met P w K mg base 4 (He.ga K "Scope") "has_variables" (sp_hasvs K 3) []) :
    Met P w K mg base 5 (He.ga K "Scope") "is_right" (sp_isr K) [] := by
  obtain ⟨fd, F⟩ := T.F_Scope_is_right
  refine met_by F T.c_Scope T.m_Scope_is_right (F.bindsN fun _ _ _ _ _ _ us hl => match us, hl with | [_, _], _ => rfl) sc_Scope_is_right (fun vs H Q E h => ?_) (fun cdv A outer s H vs Q E hr h => ?_)
  · obtain ⟨a, gc, lc, np, s, v, rfl, _⟩ := h
    rfl
  obtain ⟨a, gc, lc, np, s, v, rfl, hs, hv, ok, k⟩ := h
  obtain ⟨dx, d, ha, hd⟩ := id hs
  obtain ⟨tM, hMP⟩ := T.i_MOST_PLACE
  refine ⟨_, pss_cons (ps_set (i := 2) sc_Scope_is_right.nd rfl (Or.inl rfl) (pe_ix ix_tup (pv 1) pe_int (fun _ _ => rfl)))
      (pss_cons (ps_if (pt_cmpR op_eq (pv 2) pe_str (nomark _))
        (pss_one (ps_ret (pe_and (pe_mt c_Scope_has_variable hr (by omega) (pv 0) (pa_cons (pe_ix ix_tup (pv 1) pe_int (fun _ _ => rfl)) pa_nil)) (pe_one (pe_mt c_Scope_has_variables hr (by omega) (pv 0) (pa_cons (pe_ix ix_tup (pv 1) pe_int (fun _ _ => rfl)) pa_nil))))))
        pss_nil)
      (pss_cons (ps_if (pt_cmpR op_eq (pv 2) pe_str (nomark _))
        (pss_one (ps_ret (pe_mt c_Scope_has_variable hr (by omega) (pv 0) (pa_cons (pe_ix ix_tup (pv 1) pe_int (fun _ _ => rfl)) pa_nil))))
        pss_nil)
      (pss_cons (ps_if (pt_cmpR op_eq (pv 2) pe_str (nomark _))
        (pss_one (ps_ret (pe_chain op_le op_lt pe_int (pe_ix ix_tup (pv 1) pe_int (fun _ _ => rfl)) (pe_fld (pv 0) rfl) (by with_unfolding_all rfl))))
        pss_nil)
      (pss_cons (ps_if (pt_cmpR op_in_seq (pv 2) (pe_tup (pa_cons pe_str (pa_cons pe_str pa_nil))) (by rfl))
        (pss_one (ps_ret (pe_mt c_Scope_has_variables hr (by omega) (pv 0) (pa_cons (pe_ix ix_tup (pv 1) pe_int (fun _ _ => rfl)) pa_nil))))
        pss_nil)
      (pss_cons (ps_if (pt_cmpR op_eq (pv 2) pe_str (nomark _))
        (pss_one (ps_ret (pe_chain op_le op_le pe_int (pe_ix ix_tup (pv 1) pe_int (fun _ _ => rfl)) (pe_glob (v := .int 999) rfl hMP ⟨_, rfl⟩) (by with_unfolding_all rfl))))
        pss_nil)
      (pss_one (ps_ret pe_bl))))))), ?_⟩
  have sr := Same.refl H
  cases s with
  | set x e =>
    obtain ⟨q, xs, rfl, hq, _, _, rfl, rfl, vx, _, rfl, rx, ve, _, rfl, re, rfl⟩ := hv
    refine ⟨_, rfl, q, _, _, _, rfl, rfl, SqT.of hq, at0, ?_⟩
    refine ⟨_, rfl, rfl, _, rfl, if_t (by decide +kernel) ?_⟩
    refine ⟨_, rfl, a, dx, _, rfl, ha, rfl, _, rfl, q, _, _, _, rfl, rfl, SqT.of hq, rfl, a, gc, lc, np, x, vx, rfl, hs, rx, ok.1, _, rfl, ?_⟩
    refine ite2 (fun _ => ?_) (fun z => absurd rfl z)
    exact ⟨_, rfl, a, dx, _, rfl, ha, rfl, _, rfl, q, _, _, _, rfl, rfl, SqT.of hq, rfl, a, gc, lc, np, e, ve, rfl, hs, re, ok.2.1, Nat.lt_succ_of_le ok.2.2, k⟩
  | free x =>
    obtain ⟨q, xs, rfl, hq, _, _, rfl, rfl, vx, _, rfl, rx, rfl⟩ := hv
    refine ⟨_, rfl, q, _, _, _, rfl, rfl, SqT.of hq, at0, ?_⟩
    refine ⟨_, rfl, rfl, _, rfl, if_f (by decide +kernel) ?_⟩
    refine ⟨_, rfl, rfl, _, rfl, if_t (by decide +kernel) ?_⟩
    exact ⟨_, rfl, a, dx, _, rfl, ha, rfl, _, rfl, q, _, _, _, rfl, rfl, SqT.of hq, rfl, a, gc, lc, np, x, vx, rfl, hs, rx, ok, k H sr⟩
  | call x =>
    obtain ⟨q, xs, rfl, hq, _, _, rfl, rfl, _, _, rfl, rfl, rfl⟩ := hv
    refine ⟨_, rfl, q, _, _, _, rfl, rfl, SqT.of hq, at0, ?_⟩
    refine ⟨_, rfl, rfl, _, rfl, if_f (by decide +kernel) ?_⟩
    refine ⟨_, rfl, rfl, _, rfl, if_f (by decide +kernel) ?_⟩
    refine ⟨_, rfl, rfl, _, rfl, if_t (by decide +kernel) ?_⟩
    have hok : x < np := ok
    refine ⟨_, rfl, q, _, _, _, rfl, rfl, SqT.of hq, rfl, _, _, rfl, rfl, _, rfl, ?_⟩
    rw [if_pos (by simp)]
    refine ⟨_, rfl, a, _, dx, _, _, rfl, ha, T.c_Scope, T.n_Scope_procedure_count, rfl, _, _, rfl, rfl, ?_⟩
    show Q (.bl (decide ((x : Int) < (np : Int)))) H
    rw [decide_eq_true (Int.ofNat_lt.mpr hok)]
    exact k H sr
  | ite e x y =>
    obtain ⟨q, xs, rfl, hq, _, _, rfl, rfl, ve, _, rfl, re, va, _, rfl, ra, vb, _, rfl, rb, rfl⟩ := hv
    refine ⟨_, rfl, q, _, _, _, rfl, rfl, SqT.of hq, at0, ?_⟩
    refine ⟨_, rfl, rfl, _, rfl, if_f (by decide +kernel) ?_⟩
    refine ⟨_, rfl, rfl, _, rfl, if_f (by decide +kernel) ?_⟩
    refine ⟨_, rfl, rfl, _, rfl, if_f (by decide +kernel) ?_⟩
    refine ⟨_, rfl, (by show 2 ≤ sizeLine; decide), fun z hz => ⟨z, _, rfl, .inr (SqT.of upd_same), rfl, rfl, _, rfl, if_t (by decide +kernel) ?_⟩⟩
    have hq1 := same_upd (o := .tup [V.str "if", V.str "while"]) hz _ _ hq
    have ha1 := same_upd (o := .tup [V.str "if", V.str "while"]) hz _ _ ha
    have sz := same_upd (o := .tup [V.str "if", V.str "while"]) hz
    have hs1 := hs.same sz
    have up : ∀ {dd : PyData} {vv : V}, Rp H dd vv → Rp (upd H z (.tup [V.str "if", V.str "while"])) dd vv := fun h => Rp.at sz.tups _ _ h
    exact ⟨_, rfl, a, dx, _, rfl, ha1, rfl, _, rfl, q, _, _, _, rfl, rfl, SqT.of hq1, rfl, a, gc, lc, np, e, ve, rfl, hs1, up re, ok.1.1, Nat.lt_succ_of_le ok.1.2, fun H' e' => k H' (sz.trans e')⟩
  | wh e x =>
    obtain ⟨q, xs, rfl, hq, _, _, rfl, rfl, ve, _, rfl, re, va, _, rfl, ra, rfl⟩ := hv
    refine ⟨_, rfl, q, _, _, _, rfl, rfl, SqT.of hq, at0, ?_⟩
    refine ⟨_, rfl, rfl, _, rfl, if_f (by decide +kernel) ?_⟩
    refine ⟨_, rfl, rfl, _, rfl, if_f (by decide +kernel) ?_⟩
    refine ⟨_, rfl, rfl, _, rfl, if_f (by decide +kernel) ?_⟩
    refine ⟨_, rfl, (by show 2 ≤ sizeLine; decide), fun z hz => ⟨z, _, rfl, .inr (SqT.of upd_same), rfl, rfl, _, rfl, if_t (by decide +kernel) ?_⟩⟩
    have hq1 := same_upd (o := .tup [V.str "if", V.str "while"]) hz _ _ hq
    have ha1 := same_upd (o := .tup [V.str "if", V.str "while"]) hz _ _ ha
    have sz := same_upd (o := .tup [V.str "if", V.str "while"]) hz
    have hs1 := hs.same sz
    have up : ∀ {dd : PyData} {vv : V}, Rp H dd vv → Rp (upd H z (.tup [V.str "if", V.str "while"])) dd vv := fun h => Rp.at sz.tups _ _ h
    exact ⟨_, rfl, a, dx, _, rfl, ha1, rfl, _, rfl, q, _, _, _, rfl, rfl, SqT.of hq1, rfl, a, gc, lc, np, e, ve, rfl, hs1, up re, ok.1.1, Nat.lt_succ_of_le ok.1.2, fun H' e' => k H' (sz.trans e')⟩
  | pass x =>
    obtain ⟨q, xs, rfl, hq, _, _, rfl, rfl, _, _, rfl, rfl, rfl⟩ := hv
    refine ⟨_, rfl, q, _, _, _, rfl, rfl, SqT.of hq, at0, ?_⟩
    refine ⟨_, rfl, rfl, _, rfl, if_f (by decide +kernel) ?_⟩
    refine ⟨_, rfl, rfl, _, rfl, if_f (by decide +kernel) ?_⟩
    refine ⟨_, rfl, rfl, _, rfl, if_f (by decide +kernel) ?_⟩
    refine ⟨_, rfl, (by show 2 ≤ sizeLine; decide), fun z hz => ⟨z, _, rfl, .inr (SqT.of upd_same), rfl, rfl, _, rfl, if_f (by decide +kernel) ?_⟩⟩
    have hq1 := same_upd (o := .tup [V.str "if", V.str "while"]) hz _ _ hq
    have ha1 := same_upd (o := .tup [V.str "if", V.str "while"]) hz _ _ ha
    have sz := same_upd (o := .tup [V.str "if", V.str "while"]) hz
    have hs1 := hs.same sz
    have up : ∀ {dd : PyData} {vv : V}, Rp H dd vv → Rp (upd H z (.tup [V.str "if", V.str "while"])) dd vv := fun h => Rp.at sz.tups _ _ h
    refine ⟨_, rfl, rfl, _, rfl, if_t (by decide +kernel) ?_⟩
    have hok : x ≤ 999 := ok
    refine ⟨_, rfl, q, _, _, _, rfl, rfl, SqT.of hq1, rfl, _, _, rfl, rfl, _, rfl, ?_⟩
    rw [if_pos (by simp)]
    refine ⟨_, _, rfl, rfl, ?_⟩
    show Q (.bl (decide ((x : Int) ≤ (999 : Int)))) _
    rw [decide_eq_true (by omega)]
    exact k _ sz
  | ei x y =>
    obtain ⟨q, xs, rfl, hq, _, _, rfl, rfl, _⟩ := hv
    refine ⟨_, rfl, q, _, _, _, rfl, rfl, SqT.of hq, at0, ?_⟩
    refine ⟨_, rfl, rfl, _, rfl, if_f (by decide +kernel) ?_⟩
    refine ⟨_, rfl, rfl, _, rfl, if_f (by decide +kernel) ?_⟩
    refine ⟨_, rfl, rfl, _, rfl, if_f (by decide +kernel) ?_⟩
    refine ⟨_, rfl, (by show 2 ≤ sizeLine; decide), fun z hz => ⟨z, _, rfl, .inr (SqT.of upd_same), rfl, rfl, _, rfl, if_f (by decide +kernel) ?_⟩⟩
    have hq1 := same_upd (o := .tup [V.str "if", V.str "while"]) hz _ _ hq
    have ha1 := same_upd (o := .tup [V.str "if", V.str "while"]) hz _ _ ha
    have sz := same_upd (o := .tup [V.str "if", V.str "while"]) hz
    have hs1 := hs.same sz
    have up : ∀ {dd : PyData} {vv : V}, Rp H dd vv → Rp (upd H z (.tup [V.str "if", V.str "while"])) dd vv := fun h => Rp.at sz.tups _ _ h
    refine ⟨_, rfl, rfl, _, rfl, if_f (by decide +kernel) ?_⟩
    exact k _ sz
  | rp x =>
    obtain ⟨q, xs, rfl, hq, _, _, rfl, rfl, _⟩ := hv
    refine ⟨_, rfl, q, _, _, _, rfl, rfl, SqT.of hq, at0, ?_⟩
    refine ⟨_, rfl, rfl, _, rfl, if_f (by decide +kernel) ?_⟩
    refine ⟨_, rfl, rfl, _, rfl, if_f (by decide +kernel) ?_⟩
    refine ⟨_, rfl, rfl, _, rfl, if_f (by decide +kernel) ?_⟩
    refine ⟨_, rfl, (by show 2 ≤ sizeLine; decide), fun z hz => ⟨z, _, rfl, .inr (SqT.of upd_same), rfl, rfl, _, rfl, if_f (by decide +kernel) ?_⟩⟩
    have hq1 := same_upd (o := .tup [V.str "if", V.str "while"]) hz _ _ hq
    have ha1 := same_upd (o := .tup [V.str "if", V.str "while"]) hz _ _ ha
    have sz := same_upd (o := .tup [V.str "if", V.str "while"]) hz
    have hs1 := hs.same sz
    have up : ∀ {dd : PyData} {vv : V}, Rp H dd vv → Rp (upd H z (.tup [V.str "if", V.str "while"])) dd vv := fun h => Rp.at sz.tups _ _ h
    refine ⟨_, rfl, rfl, _, rfl, if_f (by decide +kernel) ?_⟩
    exact k _ sz
  | ret =>
    obtain ⟨q, xs, rfl, hq, _, _, rfl, rfl, _⟩ := hv
    refine ⟨_, rfl, q, _, _, _, rfl, rfl, SqT.of hq, at0, ?_⟩
    refine ⟨_, rfl, rfl, _, rfl, if_f (by decide +kernel) ?_⟩
    refine ⟨_, rfl, rfl, _, rfl, if_f (by decide +kernel) ?_⟩
    refine ⟨_, rfl, rfl, _, rfl, if_f (by decide +kernel) ?_⟩
    refine ⟨_, rfl, (by show 2 ≤ sizeLine; decide), fun z hz => ⟨z, _, rfl, .inr (SqT.of upd_same), rfl, rfl, _, rfl, if_f (by decide +kernel) ?_⟩⟩
    have hq1 := same_upd (o := .tup [V.str "if", V.str "while"]) hz _ _ hq
    have ha1 := same_upd (o := .tup [V.str "if", V.str "while"]) hz _ _ ha
    have sz := same_upd (o := .tup [V.str "if", V.str "while"]) hz
    have hs1 := hs.same sz
    have up : ∀ {dd : PyData} {vv : V}, Rp H dd vv → Rp (upd H z (.tup [V.str "if", V.str "while"])) dd vv := fun h => Rp.at sz.tups _ _ h
    refine ⟨_, rfl, rfl, _, rfl, if_f (by decide +kernel) ?_⟩
    exact k _ sz
def sp_arer (K : PySem.W.Frag) (n : Nat) : Sp := fun vs H Q _ => ∃ (a : Addr) (gc lc np : Nat) (b : List Sm) (v : V), vs = [.ref a, v] ∧ ScAt K H a gc lc np ∧ Rp H (.tuple (bdD b)) v ∧ bdOk gc lc np b ∧ bdP b < n ∧ ∀ H', Same H H' → Q (.bl true) H'
theorem arer_no : ∀ vs H Q E, ¬ sp_arer K 0 vs H Q E := fun vs H Q E ⟨_, _, _, _, _, _, _, _, _, _, h, _⟩ => Nat.not_lt_zero _ h
abbrev n_Scope_are_right : List Str := ["self", "body", "statement", "inner"]
theorem sc_Scope_are_right : FnScope n_Scope_are_right ["self", "body"] (defScope s_Scope_are_right) := ⟨rfl, rfl, rfl, by decide +kernel, rfl, by decide +kernel, by decide +kernel⟩
theorem ok_arer {n m : Nat} (T : Env K mg) (hm : 5 ≤ m) (c_bodies : Cal P w K mg base 1 "bodies" sp_bods []) (c_Scope_is_right : Met P w K mg base 5 (He.ga K "Scope") "is_right" (sp_isr K) []) (c_Scope_are_right : Met P w K mg base m (He.ga K "Scope") "are_right" (sp_arer K n) []) :
    Met P w K mg base (m + 1) (He.ga K "Scope") "are_right" (sp_arer K (n + 1)) [] := by
  obtain ⟨fd, F⟩ := T.F_Scope_are_right
  refine met_by F T.c_Scope T.m_Scope_are_right (F.bindsN fun _ _ _ _ _ _ us hl => match us, hl with | [_, _], _ => rfl) sc_Scope_are_right (fun vs H Q E h => ?_) (fun cdv A outer s H vs Q E hr h => ?_)
  · obtain ⟨a, gc, lc, np, b, v, rfl, _⟩ := h
    rfl
  obtain ⟨a, gc, lc, np, b, v, rfl, hs, hv, ok, dp, k⟩ := h
  have hins : ∀ {H1 : Hp}, Same H H1 → ∃ dx d : Addr, H1 a = some (.ins (He.ga K "Scope") dx [("counts", .ref d), ("procedure_count", .int np)]) := fun sm => let ⟨dx, d, h1, _⟩ := hs; ⟨dx, d, sm _ _ h1⟩
  refine ⟨_, pss_cons (ps_for PassesOwn.never rfl (pi_tup (pv 1)) (pg_name (i := 2) sc_Scope_are_right.nd rfl (Or.inl rfl))
        (pss_one (ps_if (PW.pt (pw_or (pt_not (pt_val (pe_mt c_Scope_is_right hr (by omega) (pv 0) (pa_cons (pv 2) pa_nil)))) (pw_or1 (pt_not (pt_val (pe_callB (cr_all rfl) (by rfl) T.f_all (by decide +kernel) (pa_cons (pe_lc (own := [("inner", 3)]) (g := gName 3) (by rfl) sc_Scope_are_right.nd (pi_tup (pe_c c_bodies hr (by omega) rfl (pa_cons (pv 2) pa_nil))) (blkOk_by (own := [("inner", 3)]) (N := n_Scope_are_right) (sc := defScope s_Scope_are_right) (by decide +kernel)) (fun _ _ _ _ _ => (pg_name (i := 3) sc_Scope_are_right.nd rfl (Or.inl rfl))) (fun _ _ _ _ _ => pts_nil) (fun _ _ _ _ _ => (pe_mt c_Scope_are_right hr (by omega) (pv 0) (pa_cons (pv 3) pa_nil)))) pa_nil)))))))
          (pss_one (ps_ret pe_bl))
          pss_nil)))
      (pss_one (ps_ret pe_bl)), ?_⟩
  obtain ⟨q, xs, rfl, hq, hx⟩ := hv
  refine ⟨_, rfl, q, rfl, ⟨_, SqT.of hq⟩, for_it (walk_tup (K := K) (a := q) (xs := xs)) (fun i σ H1 => ∃ (x y : Option V), σ = [some (.ref a), some (.ref q), x, y] ∧ Same H H1) ⟨_, _, rfl, Same.refl H⟩ (fun i σ H1 _ ⟨_, _, _, sm⟩ => SqT.of (sm _ _ hq)) ?_ ?_⟩
  · rintro i x σ _ H1 hi ⟨x0, y0, rfl, sm⟩ ⟨rfl, hxi⟩
    obtain ⟨d, hdi, rd⟩ := hx.getV hxi
    rw [bdD_map, List.getElem?_map] at hdi
    obtain ⟨s, hsi, rfl⟩ := Option.map_eq_some_iff.mp hdi
    have smem := List.mem_of_getElem? hsi
    have ds : s.deep < n + 1 := Nat.lt_of_le_of_lt (bdP_mem.mp (Nat.le_refl _) s smem) dp
    have oks := bdOk_mem.mp ok s smem
    obtain ⟨dx, dd, ha⟩ := hins sm
    dsimp only [tNext]
    refine ⟨_, rfl, a, dx, _, rfl, ha, rfl, _, rfl, a, gc, lc, np, s, x, rfl, hs.same sm, Rp.at sm.tups _ _ rd, oks, fun H2 sm2 => ?_⟩
    refine ⟨_, rfl, if_f rfl ?_⟩
    refine ⟨_, rfl, s, x, rfl, Rp.at (sm.trans sm2).tups _ _ rd, fun p ys H3 sm3 hp hy => ⟨p, rfl, ⟨_, SqT.of hp⟩, fun D hD => ?_⟩⟩
    have hyl : ys.length = s.bods.length := by rw [hy.len, List.length_map]
    have small2 := s.len_bods
    have s03 := (sm.trans sm2).trans sm3
    refine lc_it (walk_tup (K := K) (a := p) (xs := ys)) (fun j H4 => Same H3 H4 ∧ H4 D = some (.lst ((List.replicate j true).map V.bl))) ⟨same_upd hD, upd_same⟩ (fun j H4 _ z => SqT.of (z.1 _ _ hp)) ?_ ?_
    · rintro j y _ H4 hj ⟨sm4, hD4⟩ ⟨rfl, hyj⟩
      obtain ⟨d, hdj, rdj⟩ := hy.getV hyj
      rw [List.getElem?_map] at hdj
      obtain ⟨c, hc, rfl⟩ := Option.map_eq_some_iff.mp hdj
      have cm := List.mem_of_getElem? hc
      have dc := Sm.deep_bods cm
      have s04 := s03.trans sm4
      obtain ⟨dx, dd, ha⟩ := hins s04
      refine ⟨rfl, ?_⟩
      dsimp only [tYes]
      refine iteT ?_
      refine ⟨_, rfl, a, dx, _, rfl, ha, rfl, _, rfl, a, gc, lc, np, c, y, rfl, hs.same s04, Rp.at sm4.tups _ _ rdj, Sm.ok_bods oks cm, by omega, fun H5 sm5 => ⟨_, sm5 _ _ hD4, smallL (by rw [List.length_map, List.length_replicate]; omega), (sm4.trans sm5).mut hD, ?_⟩⟩
      rw [upd_same, List.replicate_succ', List.map_append]
      rfl
    rintro H4 ⟨sm4, hD4⟩
    refine ⟨D, _, rfl, SqL.of hD4, ?_⟩
    have e : (List.replicate ys.length true).all id = true := by simp
    rw [e]
    refine ⟨_, rfl, if_f rfl ?_⟩
    exact ⟨_, _, rfl, s03.trans sm4⟩
  · rintro σ H1 ⟨x0, y0, rfl, sm⟩
    exact k H1 sm
/-! ### Program -/
/-- Program's instance -/
def PgAt (K : PySem.W.Frag) (H : Hp) (a : Addr) (G : Prog) : Prop := ∃ (dx t : Addr) (xs : List V), H a = some (.ins (He.ga K "Program") dx [("global_count", .int G.gc), ("procedures", .ref t)]) ∧ H t = some (.tup xs) ∧ RpAll H (G.procs.map procD) xs
theorem PgAt.same {H H' : Hp} {a : Addr} {G : Prog} (h : PgAt K H a G) (e : Same H H') : PgAt K H' a G := let ⟨dx, t, xs, h1, h2, h3⟩ := h; ⟨dx, t, xs, e _ _ h1, e _ _ h2, RpAll.at e.tups _ _ h3⟩
def sp_prog (K : PySem.W.Frag) : Sp := fun vs H Q _ => ∃ (x dx l : Addr) (xs : List V) (G : Prog) (H0 : Hp), vs = [.ref x, .int G.gc, .ref l] ∧ Same H0 H ∧ H0 x = none ∧ H x = some (.ins (He.ga K "Program") dx []) ∧
  H l = some (.lst xs) ∧ RpAll H (G.procs.map procD) xs ∧ G.Ok ∧ ∀ H', Same H0 H' → PgAt K H' x G → Q .non H'
abbrev n_Program___init__ : List Str := ["self", "global_count", "procedures", "index", "local_count", "body", "scope"]
theorem sc_Program___init__ : FnScope n_Program___init__ ["self", "global_count", "procedures"] (defScope s_Program___init__) := ⟨rfl, rfl, rfl, by decide +kernel, rfl, by decide +kernel, by decide +kernel⟩
theorem ok_prog (T : Env K mg) (c_Scope : Mak P w K mg base 1 "Scope" (He.ga K "Scope") (sp_scope K) []) (c_Scope_are_right : Met P w K mg base 9 (He.ga K "Scope") "are_right" (sp_arer K 4) []) :
    Mak P w K mg base 10 "Program" (He.ga K "Program") (sp_prog K) [] := by
  obtain ⟨fd, F⟩ := T.F_Program___init__
  refine mak_by F T.k_Program T.g_Program (F.bindsN fun _ _ _ _ _ _ us hl => match us, hl with | [_, _, _], _ => rfl) .nil sc_Program___init__ (fun vs H Q E h => ?_) (fun cdv A outer s H vs Q E hr h => ?_)
  · obtain ⟨x, dx, l, xs, G, H0, rfl, _⟩ := h
    rfl
  obtain ⟨x, dx, l, xs, G, H0, rfl, sm, hx0, hx, hl, hxs, ok, k⟩ := h
  refine ⟨_, pss_cons (ps_if (PW.pt (pw_or (pt_cmpR op_lt (pv 1) pe_int (nomark _)) (pw_or1 (pt_cmpR op_eq (pe_callB call_len_seq (by rfl) T.f_len (by decide +kernel) (pa_cons (pv 2) pa_nil)) pe_int (nomark _)))))
        (pss_one ps_never)
        pss_nil)
      (pss_cons (ps_for PassesOwn.never rfl (pi_enum (by rfl) T.f_enumerate (pa_cons (pv 2) pa_nil)) (pg_tup (by rfl) (pgs_cons (pg_name (i := 3) sc_Program___init__.nd rfl (Or.inl rfl)) (pgs_cons (pg_tup (by rfl) (pgs_cons (pg_name (i := 4) sc_Program___init__.nd rfl (Or.inl rfl)) (pgs_cons (pg_name (i := 5) sc_Program___init__.nd rfl (Or.inl rfl)) pgs_nil))) pgs_nil)))
        (pss_cons (ps_set (i := 6) sc_Program___init__.nd rfl (Or.inl rfl) (pe_mk c_Scope hr (by omega) rfl (pa_cons (pv 1) (pa_cons (pv 4) (pa_cons (pe_callB call_len_seq (by rfl) T.f_len (by decide +kernel) (pa_cons (pv 2) pa_nil)) pa_nil)))))
        (pss_one (ps_if (PW.pt (pw_or (pt_cmpR op_lt (pv 4) pe_int (nomark _)) (pw_or1 (pt_not (pt_val (pe_mt c_Scope_are_right hr (by omega) (pv 6) (pa_cons (pv 5) pa_nil)))))))
          (pss_one ps_never)
          pss_nil))))
      (pss_cons (ps_fld (pv 0) (pv 1) rfl)
      (pss_one (ps_fld (pv 0) (pe_callTy call_tuple_of (by rfl) T.f_tuple (by decide +kernel) (pa_cons (pv 2) pa_nil)) rfl)))), ?_⟩
  have hxl : xs.length = G.procs.length := by rw [hxs.len, List.length_map]
  have n1 := ok.n1
  have n2 := ok.n2
  refine ⟨_, rfl, _, _, rfl, rfl, _, rfl, if_f (decide_eq_false (by omega)) ?_⟩
  refine ⟨_, rfl, l, _, rfl, .inl (SqL.of hl), rfl, _, rfl, ?_⟩
  refine if_f (decide_eq_false fun z => ?_) ?_
  · injection z with z
    omega
  refine ⟨_, rfl, l, _, rfl, SqL.of hl, ?_⟩
  refine for_it (walk_enum (K := K) (a := l) (xs := xs)) (fun i σ H1 => ∃ (x3 x4 x5 x6 : Option V), σ = [some (.ref x), some (.int G.gc), some (.ref l), x3, x4, x5, x6] ∧ Same H H1) ⟨_, _, _, _, rfl, Same.refl H⟩ (fun i σ H1 _ ⟨_, _, _, _, _, sm1⟩ => SqL.of (sm1 _ _ hl)) ?_ ?_
  · rintro i y σ H1 _ hi ⟨x3, x4, x5, x6, rfl, sm1⟩ ⟨U, _, v, rfl, hU, rfl, e1, e2⟩
    cases e1
    obtain ⟨d, hdi, rd⟩ := hxs.getV e2
    rw [List.getElem?_map] at hdi
    obtain ⟨pr, hpr, rfl⟩ := Option.map_eq_some_iff.mp hdi
    have pm := List.mem_of_getElem? hpr
    obtain ⟨q, us, rfl, hq, v1, _, rfl, rfl, vb, _, rfl, rb, rfl⟩ := rd
    have sm2 := sm1.new (o := .tup [V.int (i : Nat), V.ref q]) hU
    have hU1 : (upd H1 U (.tup [V.int (i : Nat), V.ref q])) U = some (.tup [V.int (i : Nat), V.ref q]) := upd_same
    generalize upd H1 U (.tup [V.int (i : Nat), V.ref q]) = H2 at *
    refine ⟨U, _, rfl, SqT.of hU1, rfl, _, _, rfl, _, _, rfl, q, _, rfl, SqT.of (sm2 _ _ hq), rfl, _, _, rfl, _, _, rfl, rfl, rfl, ?_⟩
    refine ⟨_, rfl, _, rfl, _, rfl, l, _, rfl, .inl (SqL.of (sm2 _ _ hl)), fun sc dsc h1 h2 h3 => ?_⟩
    refine ⟨sc, dsc, G.gc, pr.1, xs.length, H2, rfl, made h1 h2, h1, upd_same, fun H3 sm3 hsc => ⟨rfl, ?_⟩⟩
    have sm4 := sm2.trans sm3
    refine ⟨_, rfl, _, _, rfl, rfl, _, rfl, if_f (decide_eq_false (by omega)) ?_⟩
    have okp := ok.ok pr pm
    rw [← hxl] at okp
    have dpp := ok.deep pr pm
    obtain ⟨dx2, dd, hsc1, _⟩ := id hsc
    refine ⟨_, rfl, sc, dx2, _, rfl, hsc1, rfl, _, rfl, sc, _, _, _, pr.2, vb, rfl, hsc, Rp.at sm4.tups _ _ rb, okp, by omega, fun H5 sm5 => ⟨_, rfl, if_f rfl ⟨_, _, _, _, rfl, sm4.trans sm5⟩⟩⟩
  · rintro σ H1 ⟨x3, x4, x5, x6, rfl, sm1⟩
    refine ⟨_, rfl, _, rfl, x, _, dx, _, rfl, sm1 _ _ hx, T.c_Program, T.n_Program_global_count, (by show 0 < 1000; decide), ?_⟩
    rw [show putF (Str.ofString "global_count") (V.int ↑G.gc) [] = [(Str.ofString "global_count", V.int G.gc)] from rfl]
    have s2 : Same H0 (upd H1 x (.ins (He.ga K "Program") dx [("global_count", .int G.gc)])) := (sm.trans sm1).mut hx0
    have hl2 : (upd H1 x (.ins (He.ga K "Program") dx [("global_count", .int G.gc)])) l = some (.lst xs) := by rw [upd_ne (fun z => by rw [z, hx] at hl; cases hl)]; exact sm1 _ _ hl
    have hx2 : (upd H1 x (.ins (He.ga K "Program") dx [("global_count", .int G.gc)])) x = some (.ins (He.ga K "Program") dx [("global_count", .int G.gc)]) := upd_same
    have tp : Tups H (upd H1 x (.ins (He.ga K "Program") dx [("global_count", .int G.gc)])) := fun b ys e => by rw [upd_ne (fun z => by rw [z, hx] at e; cases e)]; exact sm1 _ _ e
    generalize hH2 : upd H1 x (.ins (He.ga K "Program") dx [("global_count", .int G.gc)]) = H2 at *
    refine ⟨_, rfl, l, _, rfl, .inl ⟨SqL.of hl2, fun t ht => ?_⟩⟩
    refine ⟨_, rfl, x, _, dx, _, rfl, same_upd ht _ _ hx2, T.c_Program, T.n_Program_procedures, (by show 1 < 1000; decide), ?_⟩
    have ne : t ≠ x := Ne.symm (ne_of_none hx2 ht)
    refine k _ ((s2.new ht).mut hx0) ⟨dx, t, xs, upd_same, by rw [upd_ne ne]; exact upd_same, RpAll.at (fun b ys e => ?_) _ _ hxs⟩
    have nb : b ≠ x := fun z => by
      rw [z, hx] at e
      cases e
    rw [upd_ne nb]
    exact same_upd ht _ _ (tp b ys e)
/-! ### all levels -/
theorem all_hasvs (T : Env K mg) : Met P w K mg base 4 (He.ga K "Scope") "has_variables" (sp_hasvs K 3) [] := by
  obtain ⟨fd, F⟩ := T.F_Scope_has_variables
  have m0 : Met P w K mg base 0 (He.ga K "Scope") "has_variables" (sp_hasvs K 0) [] := Met_none (ps := ["self", "expression"]) F T.c_Scope T.m_Scope_has_variables (F.bindsN fun _ _ _ _ _ _ us hl => match us, hl with | [_, _], _ => rfl) hasvs_no
  have m1 : Met P w K mg base 1 (He.ga K "Scope") "has_variables" (sp_hasvs K 0) [] := let ⟨f, fd, ps, ds, c, me, fo, b, v⟩ := m0.ex; ⟨f, fd, ps, ds, c, me, fo.mono (Nat.zero_le _), b, v⟩
  exact ok_hasvs T (by decide) (ok_hasv T) (ok_hasvs T (by decide) (ok_hasv T) (ok_hasvs T (by decide) (ok_hasv T) m1))
theorem all_arer (T : Env K mg) : Met P w K mg base 9 (He.ga K "Scope") "are_right" (sp_arer K 4) [] := by
  obtain ⟨fd, F⟩ := T.F_Scope_are_right
  have m0 : Met P w K mg base 0 (He.ga K "Scope") "are_right" (sp_arer K 0) [] := Met_none (ps := ["self", "body"]) F T.c_Scope T.m_Scope_are_right (F.bindsN fun _ _ _ _ _ _ us hl => match us, hl with | [_, _], _ => rfl) arer_no
  have m1 : Met P w K mg base 5 (He.ga K "Scope") "are_right" (sp_arer K 0) [] := let ⟨f, fd, ps, ds, c, me, fo, b, v⟩ := m0.ex; ⟨f, fd, ps, ds, c, me, fo.mono (Nat.zero_le _), b, v⟩
  have is := ok_isr (P := P) (w := w) (base := base) T (ok_hasv T) (all_hasvs T)
  exact ok_arer T (by decide) (ok_bods T) is (ok_arer T (by decide) (ok_bods T) is (ok_arer T (by decide) (ok_bods T) is (ok_arer T (by decide) (ok_bods T) is m1)))
theorem all_prog (T : Env K mg) : Mak P w K mg base 10 "Program" (He.ga K "Program") (sp_prog K) [] := ok_prog T (ok_scope T) (all_arer T)
theorem all_valof (T : Env K mg) : Cal P w K mg base 3 "value_of" (sp_valof 3) [] := by
  obtain ⟨fd, F⟩ := T.F_value_of
  exact ok_valof T (ok_valof T (ok_valof T (Cal_none (ps := ["expression", "values"]) F T.g_value_of (F.bindsN fun _ _ _ _ _ _ us hl => match us, hl with | [_, _], _ => rfl) valof_no)))
end
end Pr
/-! The program's points: laid out. -/
namespace Pr
open PySem PySem.Spec PyProof.Rows L2 RT
open C8 (Cal Met Mak pe_c pe_mk pe_mt pe_mt0)
/-- a point ahead of its linking -/
def rawP (p : Pt) : Pt := ⟨p.proc, p.stm, none, []⟩
mutual
theorem raw_S (k pl fol pl' fol' : Nat) : ∀ s : Sm, (ptS k pl fol s).map rawP = (ptS k pl' fol' s).map rawP
  | .ite e a b => by
    simp only [ptS, List.map_cons, List.map_append, rawP]
    rw [raw_B k (pl + 1) fol (pl' + 1) fol' a, raw_B k (pl + 1 + bdS a) fol (pl' + 1 + bdS a) fol' b]
  | .ei a b => by
    simp only [ptS, List.map_cons, List.map_append, rawP]
    rw [raw_B k (pl + 1) fol (pl' + 1) fol' a, raw_B k (pl + 1 + bdS a) fol (pl' + 1 + bdS a) fol' b]
  | .wh e b => by
    simp only [ptS, List.map_cons, rawP]
    rw [raw_B k (pl + 1) pl (pl' + 1) pl' b]
  | .rp b => by
    simp only [ptS, List.map_cons, rawP]
    rw [raw_B k (pl + 1) pl (pl' + 1) pl' b]
  | .set v e => rfl
  | .free v => rfl
  | .call p => rfl
  | .ret => rfl
  | .pass n => rfl
theorem raw_B (k pl bh pl' bh' : Nat) : ∀ b : List Sm, (ptB k pl bh b).map rawP = (ptB k pl' bh' b).map rawP
  | [] => rfl
  | s :: r => by
    simp only [ptB, List.map_append]
    rw [raw_S k pl (ent (pl + s.size) bh r) pl' (ent (pl' + s.size) bh' r) s, raw_B k (pl + s.size) bh (pl' + s.size) bh' r]
end
def folV : Option Nat → V
  | none => .non
  | some n => .int n
def StmR (H : Hp) : Option Sm → V → Prop
  | none, v => v = .non
  | some s, v => Rp H s.d v
theorem StmR.at {H H' : Hp} (t : Tups H H') : ∀ {o : Option Sm} {v : V}, StmR H o v → StmR H' o v
  | none, _, h => h
  | some _, _, h => Rp.at t _ _ h
/-- the point at o, its entries at e -/
def PO (K : PySem.W.Frag) (H : Hp) (o e : Addr) (p : Pt) : Prop := ∃ (dx : Addr) (sv : V), H o = some (.ins (He.ga K "Point") dx [("procedure", .int p.proc), ("statement", sv), ("entries", .ref e), ("follows", folV p.fol)]) ∧ StmR H p.stm sv ∧
  H e = some (.lst (p.ent.map fun n : Nat => V.int (n : Int)))
theorem PO.keep {K : PySem.W.Frag} {H H' : Hp} {o e : Addr} {p : Pt} (h : PO K H o e p) (t : Tups H H') (ho : ∀ u, H o = some u → H' o = some u) (he : ∀ u, H e = some u → H' e = some u) : PO K H' o e p :=
  let ⟨dx, sv, h1, h2, h3⟩ := h; ⟨dx, sv, ho _ h1, h2.at t, he _ h3⟩
theorem PO.same {K : PySem.W.Frag} {H H' : Hp} {o e : Addr} {p : Pt} (h : PO K H o e p) (s : Same H H') : PO K H' o e p := h.keep s.tups (fun u z => s _ u z) (fun u z => s _ u z)
theorem PO.at1 {K : PySem.W.Frag} {H : Hp} {o e : Addr} {p : Pt} (h : PO K H o e p) : ∃ u, H o = some u := let ⟨_, _, h1, _⟩ := h; ⟨_, h1⟩
theorem PO.at2 {K : PySem.W.Frag} {H : Hp} {o e : Addr} {p : Pt} (h : PO K H o e p) : ∃ u, H e = some u := let ⟨_, _, _, _, h1⟩ := h; ⟨_, h1⟩
abbrev refs1 (as : List (Addr × Addr)) : List V := as.map fun y => V.ref y.1
/-- points are laid at the end of the list lp; else only S changes -/
structure Bld (K : PySem.W.Frag) (lp : Addr) (S : Addr → Prop) (Hs : Hp) (as0 : List (Addr × Addr)) (pts : List Pt) (as1 : List (Addr × Addr)) (H : Hp) : Prop where
  sl : S lp
  al : ∀ x, S x → ∃ l, Hs x = some (.lst l)
  mono : ∀ x u, Hs x = some u → ∃ u', H x = some u'
  tp : Tups Hs H
  sm : SameB S Hs H
  lst : H lp = some (.lst (refs1 (as0 ++ as1)))
  len : as1.length = pts.length
  raw : ∀ (j : Nat) (y : Addr × Addr) (p : Pt), as1[j]? = some y → pts[j]? = some p → PO K H y.1 y.2 p
  fr : ∀ y ∈ as1, Hs y.1 = none ∧ Hs y.2 = none
  n1 : (as1.map (·.1)).Nodup
  n2 : (as1.map (·.2)).Nodup
section
variable {K : PySem.W.Frag} {lp : Addr} {S S2 : Addr → Prop} {Hs H H1 H2 : Hp} {as0 as1 as2 : List (Addr × Addr)} {pts pts2 : List Pt}
theorem Bld.refl (sl : S lp) (al : ∀ x, S x → ∃ l, H x = some (.lst l)) (h : H lp = some (.lst (refs1 as0))) : Bld K lp S H as0 [] [] H :=
  ⟨sl, al, fun _ u e => ⟨u, e⟩, Tups.refl H, fun _ _ e _ => e, by rw [List.append_nil]; exact h, rfl, fun _ _ _ e => by simp at e, fun _ e => by simp at e, List.nodup_nil, List.nodup_nil⟩
theorem Bld.same (b : Bld K lp S Hs as0 pts as1 H) (s : Same H H1) : Bld K lp S Hs as0 pts as1 H1 :=
  ⟨b.sl, b.al, fun x u e => let ⟨u', e'⟩ := b.mono x u e; ⟨u', s _ _ e'⟩, b.tp.trans s.tups, fun x u e n => s _ _ (b.sm x u e n), s _ _ b.lst, b.len, fun j y p h1 h2 => (b.raw j y p h1 h2).same s, b.fr, b.n1, b.n2⟩
theorem Bld.pof (b : Bld K lp S Hs as0 pts as1 H) {y : Addr × Addr} (h : y ∈ as1) : ∃ p, PO K H y.1 y.2 p := by
  obtain ⟨j, hj⟩ := List.mem_iff_getElem?.mp h
  have hlt : j < pts.length := by rw [← b.len]; exact (List.getElem?_eq_some_iff.mp hj).1
  exact ⟨_, b.raw j y _ hj (List.getElem?_eq_getElem hlt)⟩
theorem Bld.free (b : Bld K lp S Hs as0 pts as1 H) {x : Addr} (h : H x = none) : Hs x = none := by
  cases e : Hs x with
  | none => rfl
  | some u =>
    obtain ⟨u', e'⟩ := b.mono x u e
    rw [h] at e'
    cases e'
/-- a list of S is written -/
theorem Bld.wr (b : Bld K lp S Hs as0 pts as1 H) {x : Addr} {l l' : List V} (hx : S x) (hl : H x = some (.lst l)) (ne : x ≠ lp) : Bld K lp S Hs as0 pts as1 (upd H x (.lst l')) := by
  have hy : ∀ y ∈ as1, y.1 ≠ x ∧ y.2 ≠ x := fun y m => by
    obtain ⟨l0, e⟩ := b.al x hx
    obtain ⟨f1, f2⟩ := b.fr y m
    exact ⟨fun z => (by rw [z, e] at f1; cases f1), fun z => (by rw [z, e] at f2; cases f2)⟩
  have tp : Tups H (upd H x (.lst l')) := fun c xs e => by rw [upd_ne (fun z => by rw [z, hl] at e; cases e)]; exact e
  refine ⟨b.sl, b.al, fun c u e => ?_, b.tp.trans tp, fun c u e n => ?_, ?_, b.len, fun j y p h1 h2 => ?_, b.fr, b.n1, b.n2⟩
  · by_cases z : c = x
    · exact ⟨_, by rw [z]; exact upd_same⟩
    · obtain ⟨u', e'⟩ := b.mono c u e
      exact ⟨u', by rw [upd_ne z]; exact e'⟩
  · rw [upd_ne (fun z => n (by rw [z]; exact hx))]
    exact b.sm c u e n
  · rw [upd_ne (Ne.symm ne)]
    exact b.lst
  · have m := hy y (List.mem_of_getElem? h1)
    exact (b.raw j y p h1 h2).keep tp (fun u e => by rw [upd_ne m.1]; exact e) (fun u e => by rw [upd_ne m.2]; exact e)
theorem Bld.comp (b1 : Bld K lp S Hs as0 pts as1 H) (s : Same H H1) (b2 : Bld K lp S2 H1 (as0 ++ as1) pts2 as2 H2) (hS : ∀ x, S2 x → S x ∨ H x = none) : Bld K lp S Hs as0 (pts ++ pts2) (as1 ++ as2) H2 := by
  have old : ∀ y ∈ as1, (∃ u, H1 y.1 = some u ∧ ¬ S2 y.1) ∧ (∃ u, H1 y.2 = some u ∧ ¬ S2 y.2) := fun y m => by
    obtain ⟨p, hp⟩ := b1.pof m
    obtain ⟨u1, e1⟩ := hp.at1
    obtain ⟨u2, e2⟩ := hp.at2
    obtain ⟨f1, f2⟩ := b1.fr y m
    refine ⟨⟨u1, s _ _ e1, fun z => ?_⟩, ⟨u2, s _ _ e2, fun z => ?_⟩⟩
    · rcases hS _ z with z | z
      · obtain ⟨l, e⟩ := b1.al _ z
        rw [e] at f1
        cases f1
      · rw [e1] at z
        cases z
    · rcases hS _ z with z | z
      · obtain ⟨l, e⟩ := b1.al _ z
        rw [e] at f2
        cases f2
      · rw [e2] at z
        cases z
  refine ⟨b1.sl, b1.al, fun x u e => ?_, (b1.tp.trans s.tups).trans b2.tp, fun x u e n => ?_, by rw [← List.append_assoc]; exact b2.lst, by rw [List.length_append, List.length_append, b1.len, b2.len], fun j y p h1 h2 => ?_, fun y m => ?_, ?_, ?_⟩
  · obtain ⟨u1, e1⟩ := b1.mono x u e
    exact b2.mono x u1 (s _ _ e1)
  · refine b2.sm x u (s _ _ (b1.sm x u e n)) fun z => ?_
    rcases hS _ z with z | z
    · exact n z
    · have := b1.sm x u e n
      rw [z] at this
      cases this
  · by_cases c : j < as1.length
    · rw [List.getElem?_append_left c] at h1
      rw [List.getElem?_append_left (by rw [← b1.len]; exact c)] at h2
      obtain ⟨⟨_, _, z1⟩, ⟨_, _, z2⟩⟩ := old y (List.mem_of_getElem? h1)
      exact ((b1.raw j y p h1 h2).same s).keep b2.tp (fun u e => b2.sm _ u e z1) (fun u e => b2.sm _ u e z2)
    · rw [List.getElem?_append_right (by omega)] at h1
      rw [List.getElem?_append_right (by rw [← b1.len]; omega), ← b1.len] at h2
      exact b2.raw _ y p h1 h2
  · rcases List.mem_append.mp m with m | m
    · exact b1.fr y m
    · obtain ⟨f1, f2⟩ := b2.fr y m
      exact ⟨b1.free (s.free f1), b1.free (s.free f2)⟩
  · rw [List.map_append]
    refine List.nodup_append.mpr ⟨b1.n1, b2.n1, fun x h1 y h2 z => ?_⟩
    obtain ⟨y1, m1, rfl⟩ := List.mem_map.mp h1
    obtain ⟨y2, m2, rfl⟩ := List.mem_map.mp h2
    obtain ⟨⟨u, e, _⟩, _⟩ := old y1 m1
    rw [z, (b2.fr y2 m2).1] at e
    cases e
  · rw [List.map_append]
    refine List.nodup_append.mpr ⟨b1.n2, b2.n2, fun x h1 y h2 z => ?_⟩
    obtain ⟨y1, m1, rfl⟩ := List.mem_map.mp h1
    obtain ⟨y2, m2, rfl⟩ := List.mem_map.mp h2
    obtain ⟨_, ⟨u, e, _⟩⟩ := old y1 m1
    rw [z, (b2.fr y2 m2).2] at e
    cases e
/-- one point more -/
theorem Bld.one {o e : Addr} {p : Pt} (hl : H lp = some (.lst (refs1 as0))) (s : Same H H1) (ho : H o = none) (he : H e = none) (hp : PO K H1 o e p) : Bld K lp (· = lp) H as0 [p] [(o, e)] (L2.upd H1 lp (.lst (refs1 as0 ++ [V.ref o]))) := by
  have tp : Tups H1 (L2.upd H1 lp (.lst (refs1 as0 ++ [V.ref o]))) := fun c xs z => by rw [upd_ne (fun y => by rw [y, s _ _ hl] at z; cases z)]; exact z
  have no : o ≠ lp := fun z => by rw [z, hl] at ho; cases ho
  have ne : e ≠ lp := fun z => by rw [z, hl] at he; cases he
  refine ⟨rfl, fun x z => ⟨refs1 as0, by rw [show x = lp from z]; exact hl⟩, fun x u z => ?_, s.tups.trans tp, fun x u z n => ?_, ?_, rfl, fun j y q h1 h2 => ?_, fun y m => ?_, ?_, ?_⟩
  · by_cases c : x = lp
    · exact ⟨_, by rw [c]; exact upd_same⟩
    · exact ⟨u, by rw [upd_ne c]; exact s _ _ z⟩
  · rw [upd_ne n]
    exact s _ _ z
  · rw [upd_same]
    simp [refs1]
  · cases j with
    | zero =>
      cases (show some (o, e) = some y from h1)
      cases (show some p = some q from h2)
      exact hp.keep tp (fun u z => by rw [upd_ne no]; exact z) (fun u z => by rw [upd_ne ne]; exact z)
    | succ j => simp at h1
  · have : y = (o, e) := by simpa using m
    rw [this]
    exact ⟨ho, he⟩
  · simp
  · simp
end
/-- the piece of `firsts` for one statement at pl -/
def FsI (F : Addr → Nat → List Sm → Prop) (N : Addr → Prop) (H : Hp) (v : V) (pl : Nat) (s : Sm) : Prop := ∃ (t r : Addr) (ys : List V), v = .ref t ∧ H t = some (.tup [.int pl, .ref r]) ∧ N r ∧ H r = some (.lst ys) ∧ ys.length = s.bods.length ∧
  ∀ (j : Nat) (y : V) (c : List Sm), ys[j]? = some y → s.bods[j]? = some c → ∃ p, y = .ref p ∧ F p (pl + 1 + ((s.bods.take j).map bdS).sum) c
/-- `firsts` of the body b, laid from pl on -/
def Fs (N : Addr → Prop) (H : Hp) : Nat → Addr → Nat → List Sm → Prop
  | 0, _, _, _ => False
  | n + 1, q, pl, b => N q ∧ ∃ l, H q = some (.lst l) ∧ l.length = b.length ∧ ∀ (i : Nat) (v : V) (s : Sm), l[i]? = some v → b[i]? = some s → FsI (Fs N H n) N H v (pl + bdS (b.take i)) s
theorem FsI.imp {F F' : Addr → Nat → List Sm → Prop} {N N' : Addr → Prop} {H H' : Hp} {v : V} {pl : Nat} {s : Sm} (h : FsI F N H v pl s) (hF : ∀ p q c, F p q c → F' p q c) (hl : ∀ q l, N q → H q = some (.lst l) → N' q ∧ H' q = some (.lst l)) (t : Tups H H') : FsI F' N' H' v pl s := by
  obtain ⟨a, r, ys, e, h1, h2, h3, h4, h5⟩ := h
  obtain ⟨n, z⟩ := hl r ys h2 h3
  exact ⟨a, r, ys, e, t _ _ h1, n, z, h4, fun j y c e1 e2 => let ⟨p, e3, f⟩ := h5 j y c e1 e2; ⟨p, e3, hF _ _ _ f⟩⟩
theorem Fs.imp {N N' : Addr → Prop} {H H' : Hp} (hl : ∀ q l, N q → H q = some (.lst l) → N' q ∧ H' q = some (.lst l)) (t : Tups H H') : ∀ {n : Nat} {q : Addr} {pl : Nat} {b : List Sm}, Fs N H n q pl b → Fs N' H' n q pl b
  | 0, _, _, _, h => h.elim
  | n + 1, q, pl, b, h => by
    obtain ⟨hn, l, h1, h2, h3⟩ := h
    obtain ⟨n', z⟩ := hl q l hn h1
    exact ⟨n', l, z, h2, fun i v s e1 e2 => (h3 i v s e1 e2).imp (fun p q c f => Fs.imp hl t f) hl t⟩
section
variable {P : Program} {w : World} {K : PySem.W.Frag} {mg : Str → Option Value} {base : Heap}
def sp_point (K : PySem.W.Frag) : Sp := fun vs H Q _ => ∃ (x dx : Addr) (k : Nat) (o : Option Sm) (sv : V) (H0 : Hp), vs = [.ref x, .int k, sv] ∧ Same H0 H ∧ H0 x = none ∧ H x = some (.ins (He.ga K "Point") dx []) ∧ StmR H0 o sv ∧
  ∀ (e : Addr) (H' : Hp), Same H0 H' → H0 e = none → PO K H' x e ⟨k, o, none, []⟩ → Q .non H'
abbrev n_Point___init__ : List Str := ["self", "procedure", "statement"]
theorem sc_Point___init__ : FnScope n_Point___init__ ["self", "procedure", "statement"] (defScope s_Point___init__) := ⟨rfl, rfl, rfl, by decide +kernel, rfl, by decide +kernel, by decide +kernel⟩
theorem ok_point (T : Env K mg) : Mak P w K mg base 1 "Point" (He.ga K "Point") (sp_point K) [] := by
  obtain ⟨fd, F⟩ := T.F_Point___init__
  refine mak_by F T.k_Point T.g_Point (F.bindsN fun _ _ _ _ _ _ us hl => match us, hl with | [_, _, _], _ => rfl) .nil sc_Point___init__ (fun vs H Q E h => ?_) (fun cdv A outer s H vs Q E hr h => ?_)
  · obtain ⟨x, dx, k, o, sv, H0, rfl, _⟩ := h
    rfl
  obtain ⟨x, dx, k, o, sv, H0, rfl, sm, hx0, hx, hsv, q⟩ := h
  refine ⟨_, pss_cons (ps_fld (pv 0) (pv 1) rfl)
      (pss_cons (ps_fld (pv 0) (pv 2) rfl)
      (pss_cons (ps_fld (pv 0) (pe_lst pa_nil) rfl)
      (pss_one (ps_fld (pv 0) pe_non rfl)))), ?_⟩
  refine ⟨_, rfl, _, rfl, x, _, dx, _, rfl, hx, T.c_Point, T.n_Point_procedure, (by show 0 < 1000; decide), ?_⟩
  refine ⟨_, rfl, _, rfl, x, _, dx, _, rfl, upd_same, T.c_Point, T.n_Point_statement, (by show 1 < 1000; decide), ?_⟩
  rw [upd_upd]
  have s1 := sm.mut (o := .ins (He.ga K "Point") dx (putF "statement" sv (putF "procedure" (.int k) []))) hx0
  have hx1 : (upd H x (.ins (He.ga K "Point") dx (putF "statement" sv (putF "procedure" (.int k) [])))) x = some (.ins (He.ga K "Point") dx (putF "statement" sv (putF "procedure" (.int k) []))) := upd_same
  generalize upd H x (.ins (He.ga K "Point") dx (putF "statement" sv (putF "procedure" (.int k) []))) = H1 at *
  refine ⟨Nat.zero_le _, fun e he => ?_⟩
  have s2 := s1.new (o := .lst []) he
  have hx2 := same_upd (o := .lst []) he _ _ hx1
  have he2 : (upd H1 e (.lst [])) e = some (.lst []) := upd_same
  have he0 := s1.free he
  have ne : e ≠ x := Ne.symm (ne_of_none hx1 he)
  generalize upd H1 e (.lst []) = H2 at *
  refine ⟨_, rfl, x, _, dx, _, rfl, hx2, T.c_Point, T.n_Point_entries, (by show 2 < 1000; decide), ?_⟩
  refine ⟨_, rfl, x, _, dx, _, rfl, upd_same, T.c_Point, T.n_Point_follows, (by show 3 < 1000; decide), ?_⟩
  rw [upd_upd]
  have s3 := s2.mut (o := .ins (He.ga K "Point") dx (putF "follows" .non (putF "entries" (.ref e) (putF "statement" sv (putF "procedure" (.int k) []))))) hx0
  exact q e _ s3 he0 ⟨dx, sv, upd_same, hsv.at s3.tups, by rw [upd_ne ne]; exact he2⟩
end
end Pr
/-! The program's points: add_body. -/
namespace Pr
open PySem PySem.Spec PyProof.Rows L2 RT
open C8 (Cal Met Mak pe_c pe_mk pe_mt pe_mt0)
section
variable {P : Program} {w : World} {K : PySem.W.Frag} {mg : Str → Option Value} {base : Heap}
def sp_addb (K : PySem.W.Frag) (n : Nat) : Sp := fun vs H Q _ => ∃ (a dx lp le : Addr) (k : Nat) (b : List Sm) (v : V) (as0 : List (Addr × Addr)), vs = [.ref a, .int k, v] ∧ Rp H (.tuple (bdD b)) v ∧ bdP b < n ∧
  H a = some (.ins (He.ga K "Points") dx [("points", .ref lp), ("entries", .ref le)]) ∧ H lp = some (.lst (refs1 as0)) ∧ as0.length + bdS b ≤ 10000 ∧
  ∀ (as1 : List (Addr × Addr)) (q : Addr) (H' : Hp), Bld K lp (· = lp) H as0 ((ptB k 0 0 b).map rawP) as1 H' → Fs (fun x => H x = none ∧ ∀ y ∈ as1, y.2 ≠ x) H' n q as0.length b → Q (.ref q) H'
theorem addb_no : ∀ vs H Q E, ¬ sp_addb K 0 vs H Q E := fun vs H Q E ⟨_, _, _, _, _, _, _, _, _, _, h, _⟩ => Nat.not_lt_zero _ h
abbrev n_Points_add_body : List Str := ["self", "procedure", "body", "firsts", "statement", "place", "point", "inner"]
theorem sc_Points_add_body : FnScope n_Points_add_body ["self", "procedure", "body"] (defScope s_Points_add_body) := ⟨rfl, rfl, rfl, by decide +kernel, rfl, by decide +kernel, by decide +kernel⟩
theorem ok_addb {n m : Nat} (T : Env K mg) (hm : 2 ≤ m) (c_Point : Mak P w K mg base 1 "Point" (He.ga K "Point") (sp_point K) []) (c_bodies : Cal P w K mg base 1 "bodies" sp_bods []) (c_Points_add_body : Met P w K mg base m (He.ga K "Points") "add_body" (sp_addb K n) []) :
    Met P w K mg base (m + 1) (He.ga K "Points") "add_body" (sp_addb K (n + 1)) [] := by
  obtain ⟨fd, F⟩ := T.F_Points_add_body
  refine met_by F T.c_Points T.m_Points_add_body (F.bindsN fun _ _ _ _ _ _ us hl => match us, hl with | [_, _, _], _ => rfl) sc_Points_add_body (fun vs H Q E h => ?_) (fun cdv A outer s H vs Q E hr h => ?_)
  · obtain ⟨a, dx, lp, le, k, b, v, as0, rfl, _⟩ := h
    rfl
  obtain ⟨a, dx, lp, le, k, b, v, as0, rfl, hv, hd, ha, hlp, hsz, fin⟩ := h
  refine ⟨_, pss_cons (ps_set (i := 3) sc_Points_add_body.nd rfl (Or.inl rfl) (pe_lst pa_nil))
      (pss_cons (ps_for PassesOwn.never rfl (pi_tup (pv 2)) (pg_name (i := 4) sc_Points_add_body.nd rfl (Or.inl rfl))
        (pss_cons (ps_set (i := 5) sc_Points_add_body.nd rfl (Or.inl rfl) (pe_callB call_len_seq (by rfl) T.f_len (by decide +kernel) (pa_cons (pe_fld (pv 0) rfl) pa_nil)))
        (pss_cons (ps_set (i := 6) sc_Points_add_body.nd rfl (Or.inl rfl) (pe_mk c_Point hr (by omega) rfl (pa_cons (pv 1) (pa_cons (pv 4) pa_nil))))
        (pss_cons (ps_expr (pe_bm PySem.F.plainAttrs_list PySem.F.slot_list_append PySem.F.type_list_append mt_append (pe_fld (pv 0) rfl) (pa_cons (pv 6) pa_nil)))
        (pss_one (ps_expr (pe_bm PySem.F.plainAttrs_list PySem.F.slot_list_append PySem.F.type_list_append mt_append (pv 3) (pa_cons (pe_tup (pa_cons (pv 5) (pa_cons (pe_lc (own := [("inner", 7)]) (g := gName 7) (by rfl) sc_Points_add_body.nd (pi_tup (pe_c c_bodies hr (by omega) rfl (pa_cons (pv 4) pa_nil))) (blkOk_by (own := [("inner", 7)]) (N := n_Points_add_body) (sc := defScope s_Points_add_body) (by decide +kernel)) (fun _ _ _ _ _ => (pg_name (i := 7) sc_Points_add_body.nd rfl (Or.inl rfl))) (fun _ _ _ _ _ => pts_nil) (fun _ _ _ _ _ => (pe_mt c_Points_add_body hr (by omega) (pv 0) (pa_cons (pv 1) (pa_cons (pv 7) pa_nil))))) pa_nil))) pa_nil))))))))
      (pss_one (ps_ret (pv 3)))), ?_⟩
  obtain ⟨bd, xs, rfl, hbd, hx⟩ := hv
  have hlen : xs.length = b.length := by rw [hx.len, bdD_len]
  refine ⟨Nat.zero_le _, fun q hq => ?_⟩
  have sq := same_upd (o := .lst []) hq
  have aS : a ≠ lp := fun z => by rw [z, hlp] at ha; cases ha
  have hqq : (upd H q (.lst [])) q = some (.lst []) := upd_same
  have nqlp : q ≠ lp := fun z => by rw [z, hlp] at hq; cases hq
  have naq : a ≠ q := fun z => by rw [z, hq] at ha; cases ha
  generalize upd H q (.lst []) = Hq at *
  have b0 : Bld K lp (fun x => x = lp ∨ x = q) Hq as0 [] [] Hq := Bld.refl (.inl rfl) (fun x z => by
    rcases z with z | z
    · exact ⟨_, by rw [z]; exact sq _ _ hlp⟩
    · exact ⟨_, by rw [z]; exact hqq⟩) (sq _ _ hlp)
  have aB : ∀ {pts : List Pt} {as1 : List (Addr × Addr)} {H1 : Hp}, Bld K lp (fun x => x = lp ∨ x = q) Hq as0 pts as1 H1 → H1 a = some (.ins (He.ga K "Points") dx [("points", .ref lp), ("entries", .ref le)]) := fun bb => bb.sm _ _ (sq _ _ ha) fun z => z.elim aS naq
  refine ⟨_, rfl, bd, rfl, ⟨_, SqT.of (sq _ _ hbd)⟩, for_it (walk_tup (K := K) (a := bd) (xs := xs)) (fun i σ H1 => ∃ (as1 : List (Addr × Addr)) (l : List V) (x4 x5 x6 x7 : Option V), σ = [some (.ref a), some (.int k), some (.ref bd), some (.ref q), x4, x5, x6, x7] ∧
      Bld K lp (fun x => x = lp ∨ x = q) Hq as0 ((ptPre k 0 0 b i).map rawP) as1 H1 ∧ H1 q = some (.lst l) ∧ l.length = i ∧
      ∀ (j : Nat) (v : V) (s : Sm), l[j]? = some v → b[j]? = some s → FsI (Fs (fun x => Hq x = none ∧ ∀ y ∈ as1, y.2 ≠ x) H1 n) (fun x => Hq x = none ∧ ∀ y ∈ as1, y.2 ≠ x) H1 v (as0.length + bdS (b.take j)) s)
    ⟨[], [], _, _, _, _, rfl, by rw [ptPre_zero]; exact b0, hqq, rfl, fun j v s e _ => by simp at e⟩ (fun i σ H1 _ ⟨_, _, _, _, _, _, _, bb, _⟩ => SqT.of (bb.tp _ _ (sq _ _ hbd))) ?_ ?_⟩
  · rintro i sv σ _ H1 hi ⟨as1, l, x4, x5, x6, x7, rfl, bb, hql, hll, items⟩ ⟨rfl, hxi⟩
    obtain ⟨d, hdi, rd⟩ := hx.getV hxi
    rw [bdD_map, List.getElem?_map] at hdi
    obtain ⟨s, hs, rfl⟩ := Option.map_eq_some_iff.mp hdi
    have ds : s.deep < n + 1 := Nat.lt_of_le_of_lt (bdP_mem.mp (Nat.le_refl _) s (List.mem_of_getElem? hs)) hd
    have tq : Tups H H1 := sq.tups.trans bb.tp
    have l1 : as1.length = bdS (b.take i) := by rw [bb.len, List.length_map, ptPre_len]
    have hbi := bdS_take hs
    have hbl := bdS_take_le b (i + 1)
    have hss := s.size_bods
    have hlenl : (refs1 (as0 ++ as1)).length = as0.length + bdS (b.take i) := by rw [List.length_map, List.length_append, l1]
    refine ⟨_, rfl, a, _, dx, _, _, rfl, aB bb, T.c_Points, T.n_Points_points, rfl, lp, _, rfl, .inl (SqL.of bb.lst), ?_⟩
    rw [hlenl]
    -- the point
    refine ⟨_, rfl, _, rfl, fun o dxo h1 h2 h3 => ⟨o, dxo, k, some s, sv, H1, rfl, made h1 h2, h1, upd_same, Rp.at tq _ _ rd, fun e H2 sm2 he hp => ⟨rfl, ?_⟩⟩⟩
    have bb2 := bb.same sm2
    refine ⟨_, rfl, a, _, dx, _, _, rfl, aB bb2, T.c_Points, T.n_Points_points, rfl, .inl ⟨rfl, _, SqL.of bb2.lst⟩, _, rfl, lp, _, _, rfl, rfl, bb2.lst, smallL (by rw [hlenl]; omega), ?_⟩
    have bo : Bld K lp (fun x => x = lp ∨ x = q) Hq as0 ((ptPre k 0 0 b i).map rawP ++ [⟨k, some s, none, []⟩]) (as1 ++ [(o, e)]) (upd H2 lp (.lst (refs1 (as0 ++ as1) ++ [V.ref o]))) :=
      bb.comp (Same.refl H1) (Bld.one bb.lst sm2 h1 he hp) (fun x z => .inl (.inl z))
    have hq3 : (upd H2 lp (.lst (refs1 (as0 ++ as1) ++ [V.ref o]))) q = some (.lst l) := by rw [upd_ne nqlp]; exact sm2 _ _ hql
    have sB3 : ∀ x u, H1 x = some u → x ≠ lp → (upd H2 lp (.lst (refs1 (as0 ++ as1) ++ [V.ref o]))) x = some u := fun x u z n => by rw [upd_ne n]; exact sm2 _ _ z
    generalize upd H2 lp (.lst (refs1 (as0 ++ as1) ++ [V.ref o])) = H3 at *
    -- its bodies
    have t3 : Tups H H3 := sq.tups.trans bo.tp
    refine ⟨_, rfl, .inl ⟨rfl, _, SqL.of hq3⟩, _, rfl, _, rfl, s, sv, rfl, Rp.at t3 _ _ rd, fun p ys H4 sm4 hp4 hy => ⟨p, rfl, ⟨_, SqT.of hp4⟩, fun D hD => ?_⟩⟩
    have hyl : ys.length = s.bods.length := by rw [hy.len, List.length_map]
    have s34 := sm4.new (o := .lst []) hD
    have hDD : (upd H4 D (.lst [])) D = some (.lst []) := upd_same
    have hD3 : H3 D = none := sm4.free hD
    have hpD := same_upd (o := .lst []) hD _ _ hp4
    have hyD := RpAll.at (same_upd (o := .lst []) hD).tups _ _ hy
    have hlp3 := bo.lst
    have hl12 : as0 ++ (as1 ++ [(o, e)]) = (as0 ++ as1) ++ [(o, e)] := (List.append_assoc ..).symm
    have nDlp : D ≠ lp := fun z => by rw [z, hlp3] at hD3; cases hD3
    obtain ⟨HD, hHD⟩ : ∃ HD, HD = upd H4 D (.lst []) := ⟨_, rfl⟩
    rw [← hHD] at s34 hDD hpD hyD
    have bD : Bld K lp (fun x => x = lp ∨ x = D) HD (as0 ++ (as1 ++ [(o, e)])) [] [] HD := Bld.refl (.inl rfl) (fun x z => by
      rcases z with z | z
      · exact ⟨_, by rw [z]; exact s34 _ _ hlp3⟩
      · exact ⟨_, by rw [z]; exact hDD⟩) (s34 _ _ hlp3)
    have aD : ∀ {pts : List Pt} {as2 : List (Addr × Addr)} {H5 : Hp}, Bld K lp (fun x => x = lp ∨ x = D) HD (as0 ++ (as1 ++ [(o, e)])) pts as2 H5 → H5 a = some (.ins (He.ga K "Points") dx [("points", .ref lp), ("entries", .ref le)]) := fun b5 => b5.sm _ _ (s34 _ _ (aB bo)) fun z => z.elim aS fun z => by
      have := aB bo
      rw [z, hD3] at this
      cases this
    have plen : (as0 ++ (as1 ++ [(o, e)])).length = as0.length + bdS (b.take i) + 1 := by rw [List.length_append, List.length_append, l1]; rfl
    refine lc_it (walk_tup (K := K) (a := p) (xs := ys)) (fun j H5 => ∃ (as2 : List (Addr × Addr)) (zs : List V), Bld K lp (fun x => x = lp ∨ x = D) HD (as0 ++ (as1 ++ [(o, e)])) ((ptBs k 0 0 (s.bods.take j)).map rawP) as2 H5 ∧ H5 D = some (.lst zs) ∧ zs.length = j ∧
        ∀ (i2 : Nat) (y : V) (c : List Sm), zs[i2]? = some y → s.bods[i2]? = some c → ∃ p, y = .ref p ∧ Fs (fun x => HD x = none ∧ ∀ y ∈ as2, y.2 ≠ x) H5 n p (as0.length + bdS (b.take i) + 1 + ((s.bods.take i2).map bdS).sum) c)
      (by rw [← hHD]; exact ⟨[], [], bD, hDD, rfl, fun j v s e _ => by simp at e⟩) (fun j H5 _ ⟨_, _, b5, _⟩ => SqT.of (b5.tp _ _ hpD)) ?_ ?_
    · rintro j y _ H5 hj ⟨as2, zs, b5, hzs, hzl, subs⟩ ⟨rfl, hyj⟩
      obtain ⟨d, hdj, rdj⟩ := hyD.getV hyj
      rw [List.getElem?_map] at hdj
      obtain ⟨c, hc, rfl⟩ := Option.map_eq_some_iff.mp hdj
      have dc := Sm.deep_bods (List.mem_of_getElem? hc)
      have eT : s.bods.take (j + 1) = s.bods.take j ++ [c] := by rw [List.take_add_one, hc]; rfl
      have hsum : ((s.bods.take (j + 1)).map bdS).sum ≤ (s.bods.map bdS).sum := by
        conv => rhs; rw [← List.take_append_drop (j + 1) s.bods, List.map_append, List.sum_append]
        exact Nat.le_add_right _ _
      rw [eT, List.map_append, List.sum_append] at hsum
      simp only [List.map_cons, List.map_nil, List.sum_cons, List.sum_nil] at hsum
      have l2 : as2.length = ((s.bods.take j).map bdS).sum := by rw [b5.len, List.length_map, ptBs_len]
      have small2 := s.len_bods
      refine ⟨rfl, ?_⟩
      dsimp only [tYes]
      refine iteT ?_
      refine ⟨_, rfl, a, dx, _, rfl, aD b5, rfl, _, rfl, _, rfl, a, dx, lp, le, k, c, y, as0 ++ (as1 ++ [(o, e)]) ++ as2, rfl, Rp.at b5.tp _ _ rdj, by omega, aD b5, b5.lst, by rw [List.length_append, plen, l2]; omega, fun as3 p3 H6 b6 fs6 => ?_⟩
      have hz6 : H6 D = some (.lst zs) := b6.sm _ _ hzs nDlp
      refine ⟨zs, hz6, smallL (by omega), as2 ++ as3, zs ++ [.ref p3], ?_, upd_same, by rw [List.length_append, hzl]; rfl, fun i2 y2 c2 e1 e2 => ?_⟩
      · have := (b5.comp (Same.refl H5) b6 (fun x z => .inl (.inl z))).wr (l' := zs ++ [.ref p3]) (.inr rfl) hz6 nDlp
        rw [eT, ptBs_snoc, List.map_append, raw_B k (0 + ((s.bods.take j).map bdS).sum) 0 0 0 c]
        exact this
      · have up : ∀ x u, H6 x = some u → x ≠ D → (upd H6 D (.lst (zs ++ [.ref p3]))) x = some u := fun x u z n => by rw [upd_ne n]; exact z
        have t6 : Tups H6 (upd H6 D (.lst (zs ++ [.ref p3]))) := fun x u z => up x _ z fun z2 => by rw [z2, hz6] at z; cases z
        by_cases c0 : i2 < zs.length
        · rw [List.getElem?_append_left c0] at e1
          obtain ⟨p4, e4, f4⟩ := subs i2 y2 c2 e1 e2
          refine ⟨p4, e4, Fs.imp (fun x u ⟨n1, n2⟩ z => ?_) (b6.tp.trans t6) f4⟩
          have xD : x ≠ D := fun z2 => by rw [z2, hDD] at n1; cases n1
          have xlp : x ≠ lp := fun z2 => by rw [z2, s34 _ _ hlp3] at n1; cases n1
          refine ⟨⟨n1, fun y3 m3 => ?_⟩, up _ _ (b6.sm _ _ z xlp) xD⟩
          rcases List.mem_append.mp m3 with m3 | m3
          · exact n2 _ m3
          · exact fun z2 => by
              have := (b6.fr _ m3).2
              rw [z2, z] at this
              cases this
        · have i2e : i2 = j := by
            have := (List.getElem?_eq_some_iff.mp e1).1
            rw [List.length_append, List.length_singleton] at this
            omega
          subst i2e
          rw [List.getElem?_append_right (by omega), hzl, Nat.sub_self] at e1
          rw [hc] at e2
          cases e2
          refine ⟨p3, (by simpa using e1.symm), ?_⟩
          have fs7 : Fs (fun x => H5 x = none ∧ ∀ y ∈ as3, y.2 ≠ x) H6 n p3 (as0.length + bdS (b.take i) + 1 + ((s.bods.take i2).map bdS).sum) c := by
            have el : (as0 ++ (as1 ++ [(o, e)]) ++ as2).length = as0.length + bdS (b.take i) + 1 + ((s.bods.take i2).map bdS).sum := by rw [List.length_append, plen, l2]
            rw [← el]
            exact fs6
          refine Fs.imp (fun x u ⟨n1, n2⟩ z => ?_) t6 fs7
          have xD : x ≠ D := fun z2 => by rw [z2, hzs] at n1; cases n1
          refine ⟨⟨b5.free n1, fun y3 m3 => ?_⟩, up _ _ z xD⟩
          rcases List.mem_append.mp m3 with m3 | m3
          · obtain ⟨p5, hp5⟩ := b5.pof m3
            obtain ⟨u5, e5⟩ := hp5.at2
            exact fun z2 => by rw [z2, n1] at e5; cases e5
          · exact n2 _ m3
    · rintro H5 ⟨as2, zs, b5, hzs, hzl, subs⟩
      rw [hyl, List.take_length] at b5
      have b6 := bo.comp s34 b5 (fun x z => z.elim (fun z => .inl (.inl z)) (fun z => .inr (by rw [z]; exact hD3)))
      have hq5 : H5 q = some (.lst l) := b5.sm _ _ (s34 _ _ hq3) fun z => z.elim nqlp fun z => by rw [z, hD3] at hq3; cases hq3
      refine ⟨(by show 2 ≤ sizeLine; decide), fun t ht => ⟨q, _, _, rfl, rfl, same_upd ht _ _ hq5, smallL (by rw [hll]; have := len_bdS b; omega), ?_⟩⟩
      have b7 := (b6.same (same_upd (o := .tup [V.int (as0.length + bdS (b.take i) : Nat), V.ref D]) ht)).wr (l' := l ++ [V.ref t]) (.inr rfl) (same_upd ht _ _ hq5) nqlp
      have up : ∀ x u, H5 x = some u → x ≠ q → (upd (upd H5 t (.tup [V.int (as0.length + bdS (b.take i) : Nat), V.ref D])) q (.lst (l ++ [V.ref t]))) x = some u := fun x u z n => by rw [upd_ne n]; exact same_upd ht _ _ z
      have ntq : t ≠ q := fun z => by rw [z, hq5] at ht; cases ht
      have htt : (upd (upd H5 t (.tup [V.int (as0.length + bdS (b.take i) : Nat), V.ref D])) q (.lst (l ++ [V.ref t]))) t = some (.tup [V.int (as0.length + bdS (b.take i) : Nat), V.ref D]) := by rw [upd_ne ntq]; exact upd_same
      have nDq : D ≠ q := fun z => by rw [z, hq3] at hD3; cases hD3
      refine ⟨as1 ++ [(o, e)] ++ as2, l ++ [.ref t], some sv, some (.int (as0.length + bdS (b.take i) : Nat)), some (.ref o), x7, rfl, ?_, upd_same, by rw [List.length_append, hll]; rfl, fun j v2 s2 e1 e2 => ?_⟩
      · rw [ptB_split k b 0 0 i s hs, ptS_eq, List.map_append, List.map_cons]
        have er : (ptBs k (s.back (0 + bdS (b.take i)) (ent (0 + bdS (b.take i) + s.size) 0 (b.drop (i + 1)))) (0 + bdS (b.take i) + 1) s.bods).map rawP = (ptBs k 0 0 s.bods).map rawP := by
          have gen : ∀ (bs : List (List Sm)) (x1 x2 y1 y2 : Nat), (ptBs k x1 x2 bs).map rawP = (ptBs k y1 y2 bs).map rawP := by
            intro bs
            induction bs with
            | nil => intros; rfl
            | cons c r ih =>
              intro x1 x2 y1 y2
              simp only [ptBs, List.map_append]
              rw [raw_B k x2 x1 y2 y1 c, ih x1 (x2 + bdS c) y1 (y2 + bdS c)]
          exact gen _ _ _ _ _
        rw [er]
        have e3 : (ptPre k 0 0 b i).map rawP ++ (rawP ⟨k, some s, some (ent (0 + bdS (b.take i) + s.size) 0 (b.drop (i + 1))), entsOf (s.back (0 + bdS (b.take i)) (ent (0 + bdS (b.take i) + s.size) 0 (b.drop (i + 1)))) (0 + bdS (b.take i) + 1) s.bods⟩ :: (ptBs k 0 0 s.bods).map rawP) = ((ptPre k 0 0 b i).map rawP ++ [⟨k, some s, none, []⟩]) ++ (ptBs k 0 0 s.bods).map rawP := by
          rw [List.append_assoc]
          rfl
        rw [e3]
        exact b7
      · by_cases c0 : j < l.length
        · rw [List.getElem?_append_left c0] at e1
          have keep : ∀ x u, (Hq x = none ∧ ∀ y ∈ as1, y.2 ≠ x) → H1 x = some (.lst u) → (Hq x = none ∧ ∀ y ∈ as1 ++ [(o, e)] ++ as2, y.2 ≠ x) ∧ (upd (upd H5 t (.tup [V.int (as0.length + bdS (b.take i) : Nat), V.ref D])) q (.lst (l ++ [V.ref t]))) x = some (.lst u) := by
            rintro x u ⟨n1, n2⟩ z
            have xlp : x ≠ lp := fun z2 => by rw [z2, sq _ _ hlp] at n1; cases n1
            have xq : x ≠ q := fun z2 => by rw [z2, hqq] at n1; cases n1
            have z3 := sB3 _ _ z xlp
            have zD := s34 _ _ z3
            have xD : x ≠ D := fun z2 => by rw [z2, hD3] at z3; cases z3
            refine ⟨⟨n1, fun y m => ?_⟩, up _ _ (b5.sm _ _ zD (fun z2 => z2.elim xlp xD)) xq⟩
            rcases List.mem_append.mp m with m | m
            · rcases List.mem_append.mp m with m | m
              · exact n2 _ m
              · have ey : y = (o, e) := by simpa using m
                rw [ey]
                exact fun z2 => by
                  have z2 : e = x := z2
                  rw [z2, z] at he
                  cases he
            · exact fun z2 => by
                have := (b5.fr _ m).2
                rw [z2, zD] at this
                cases this
          have tt : Tups H1 (upd (upd H5 t (.tup [V.int (as0.length + bdS (b.take i) : Nat), V.ref D])) q (.lst (l ++ [V.ref t]))) := fun x u z => up _ _ (b5.tp _ _ (s34 _ _ (sB3 _ _ z (fun z2 => by rw [z2, bb.lst] at z; cases z)))) (fun z2 => by rw [z2, hql] at z; cases z)
          exact (items j v2 s2 e1 e2).imp (fun p5 q5 c5 f5 => Fs.imp keep tt f5) keep tt
        · have je : j = i := by
            have := (List.getElem?_eq_some_iff.mp e1).1
            rw [List.length_append, List.length_singleton] at this
            omega
          subst je
          rw [List.getElem?_append_right (by omega), hll, Nat.sub_self] at e1
          rw [hs] at e2
          cases e2
          have e3 : V.ref t = v2 := by simpa using e1
          refine ⟨t, D, zs, e3.symm, htt, ⟨?_, fun y m => ?_⟩, up _ _ hzs nDq, by omega, fun i2 y2 c2 e4 e5 => ?_⟩
          · exact bo.free hD3
          · rcases List.mem_append.mp m with m | m
            · obtain ⟨p5, hp5⟩ := bo.pof m
              obtain ⟨u5, e6⟩ := hp5.at2
              exact fun z2 => by rw [z2, hD3] at e6; cases e6
            · exact fun z2 => by
                have := (b5.fr _ m).2
                rw [z2, hDD] at this
                cases this
          · obtain ⟨p5, e6, f5⟩ := subs i2 y2 c2 e4 e5
            refine ⟨p5, e6, Fs.imp (fun x u ⟨n1, n2⟩ z => ?_) (fun x u z => up _ _ z (fun z2 => by rw [z2, hq5] at z; cases z)) f5⟩
            have n3 : H3 x = none := s34.free n1
            have xq : x ≠ q := fun z2 => by rw [z2, hq3] at n3; cases n3
            refine ⟨⟨bo.free n3, fun y m => ?_⟩, up _ _ z xq⟩
            rcases List.mem_append.mp m with m | m
            · obtain ⟨p5, hp5⟩ := bo.pof m
              obtain ⟨u5, e6⟩ := hp5.at2
              exact fun z2 => by rw [z2, n3] at e6; cases e6
            · exact n2 _ m
  · rintro σ H1 ⟨as1, l, x4, x5, x6, x7, rfl, bb, hql, hll, items⟩
    rw [hlen, ptPre_all] at bb
    refine ⟨_, rfl, fin as1 q H1 ⟨rfl, fun x z => ⟨refs1 as0, by rw [show x = lp from z]; exact hlp⟩, fun x u z => bb.mono _ _ (sq _ _ z), sq.tups.trans bb.tp, fun x u z n => bb.sm _ _ (sq _ _ z) (fun z2 => z2.elim n fun z2 => by rw [z2, hq] at z; cases z), bb.lst, bb.len, bb.raw, fun y m => ⟨sq.free (bb.fr y m).1, sq.free (bb.fr y m).2⟩, bb.n1, bb.n2⟩ ?_⟩
    have keep : ∀ (x : Addr) (u : List V), (Hq x = none ∧ ∀ y ∈ as1, y.2 ≠ x) → H1 x = some (.lst u) → (H x = none ∧ ∀ y ∈ as1, y.2 ≠ x) ∧ H1 x = some (.lst u) := fun x u n z => ⟨⟨sq.free n.1, n.2⟩, z⟩
    refine ⟨⟨hq, fun y m z => ?_⟩, l, hql, by omega, fun j v s e1 e2 => (items j v s e1 e2).imp (fun p5 q5 c5 f5 => Fs.imp keep (Tups.refl H1) f5) keep (Tups.refl H1)⟩
    have := (bb.fr _ m).2
    rw [z, hqq] at this
    cases this
end
end Pr
/-! The program's points: link. -/
namespace Pr
open PySem PySem.Spec PyProof.Rows L2 RT
open C8 (Cal Met Mak pe_c pe_mk pe_mt pe_mt0)
/-- but for S all stands, and nothing is lost -/
structure SmB (S : Addr → Prop) (H H' : Hp) : Prop where
  sm : SameB S H H'
  mo : ∀ x u, H x = some u → ∃ u', H' x = some u'
section
variable {S S' : Addr → Prop} {H H1 H2 : Hp} {x : Addr} {o : HO}
theorem SmB.refl : SmB S H H := ⟨fun _ _ e _ => e, fun _ u e => ⟨u, e⟩⟩
theorem SmB.trans (a : SmB S H H1) (b : SmB S H1 H2) : SmB S H H2 := ⟨a.sm.trans b.sm, fun x u e => let ⟨u', e'⟩ := a.mo x u e; b.mo x u' e'⟩
theorem SmB.wide (a : SmB S H H1) (h : ∀ x, S x → S' x) : SmB S' H H1 := ⟨a.sm.mono h, a.mo⟩
theorem _root_.L2.Same.smb (s : Same H H1) : SmB S H H1 := ⟨s.b, fun x u e => ⟨u, s _ _ e⟩⟩
theorem SmB.put (a : SmB S H H1) (h : S x) : SmB S H (upd H1 x o) := ⟨a.sm.upd h, fun y u e => by
  by_cases z : y = x
  · exact ⟨o, by rw [z]; exact upd_same⟩
  · obtain ⟨u', e'⟩ := a.mo y u e
    exact ⟨u', by rw [upd_ne z]; exact e'⟩⟩
theorem SmB.new (a : SmB S H H1) (h : H1 x = none) : SmB S H (upd H1 x o) := a.trans (same_upd h).smb
theorem SmB.free (a : SmB S H H1) (h : H1 x = none) : H x = none := by
  cases e : H x with
  | none => rfl
  | some u =>
    obtain ⟨u', e'⟩ := a.mo x u e
    rw [h] at e'
    cases e'
end
theorem ptBs_app (proc back : Nat) : ∀ (p : Nat) (A B : List (List Sm)), ptBs proc back p (A ++ B) = ptBs proc back p A ++ ptBs proc back (p + (A.map bdS).sum) B
  | p, [], B => by simp [ptBs]
  | p, c :: r, B => by simp [ptBs, ptBs_app proc back (p + bdS c) r B, Nat.add_assoc]
/-- the points at the places lo .. -/
def Seg (K : PySem.W.Frag) (H : Hp) (as : List (Addr × Addr)) (lo : Nat) (pts : List Pt) : Prop := ∀ (j : Nat) (p : Pt), pts[j]? = some p → ∃ y, as[lo + j]? = some y ∧ PO K H y.1 y.2 p
def SegS (as : List (Addr × Addr)) (lo n : Nat) (x : Addr) : Prop := ∃ (j : Nat) (y : Addr × Addr), j < n ∧ as[lo + j]? = some y ∧ (x = y.1 ∨ x = y.2)
theorem SegS.wide {as : List (Addr × Addr)} {lo n lo' n' : Nat} {x : Addr} (h : SegS as lo n x) (h1 : lo' ≤ lo) (h2 : lo + n ≤ lo' + n') : SegS as lo' n' x := by
  obtain ⟨j, y, a, b, c⟩ := h
  exact ⟨lo - lo' + j, y, by omega, by rw [show lo' + (lo - lo' + j) = lo + j by omega]; exact b, c⟩
theorem Seg.app {K : PySem.W.Frag} {H : Hp} {as : List (Addr × Addr)} {lo : Nat} {A B : List Pt} (a : Seg K H as lo A) (b : Seg K H as (lo + A.length) B) : Seg K H as lo (A ++ B) := fun j p e => by
  by_cases c : j < A.length
  · rw [List.getElem?_append_left c] at e
    exact a j p e
  · rw [List.getElem?_append_right (by omega)] at e
    obtain ⟨y, e1, e2⟩ := b _ p e
    exact ⟨y, by rw [show lo + j = lo + A.length + (j - A.length) by omega]; exact e1, e2⟩
theorem Seg.left {K : PySem.W.Frag} {H : Hp} {as : List (Addr × Addr)} {lo : Nat} {A B : List Pt} (a : Seg K H as lo (A ++ B)) : Seg K H as lo A := fun j p e => a j p (by rw [List.getElem?_append_left (List.getElem?_eq_some_iff.mp e).1]; exact e)
theorem Seg.right {K : PySem.W.Frag} {H : Hp} {as : List (Addr × Addr)} {lo : Nat} {A B : List Pt} (a : Seg K H as lo (A ++ B)) : Seg K H as (lo + A.length) B := fun j p e => by
  obtain ⟨y, e1, e2⟩ := a (A.length + j) p (by rw [List.getElem?_append_right (by omega), Nat.add_sub_cancel_left]; exact e)
  exact ⟨y, by rw [Nat.add_assoc]; exact e1, e2⟩
/-- what is known of the points ahead of the linking of n of them from lo on -/
structure LkH (K : PySem.W.Frag) (N : Addr → Prop) (as : List (Addr × Addr)) (a dx lp le lo n : Nat) (H : Hp) : Prop where
  ha : H a = some (.ins (He.ga K "Points") dx [("points", .ref lp), ("entries", .ref le)])
  hl : H lp = some (.lst (refs1 as))
  n1 : (as.map (·.1)).Nodup
  n2 : (as.map (·.2)).Nodup
  nn : ∀ x, N x → ∀ y ∈ as, y.2 ≠ x
  nl : ∀ y ∈ as, y.2 ≠ lp
  kd : ∀ (j : Nat) (y : Addr × Addr), j < n → as[lo + j]? = some y → ∃ p, PO K H y.1 y.2 p
section
variable {K : PySem.W.Frag} {N : Addr → Prop} {as : List (Addr × Addr)} {a dx lp le lo n : Nat} {H H1 : Hp}
theorem LkH.sub (L : LkH K N as a dx lp le lo n H) {lo' n' : Nat} (h1 : lo ≤ lo') (h2 : lo' + n' ≤ lo + n) : LkH K N as a dx lp le lo' n' H :=
  ⟨L.ha, L.hl, L.n1, L.n2, L.nn, L.nl, fun j y hj e => L.kd (lo' - lo + j) y (by omega) (by rw [show lo + (lo' - lo + j) = lo' + j by omega]; exact e)⟩
theorem LkH.tup (L : LkH K N as a dx lp le lo n H) {x : Addr} {xs : List V} (h : H x = some (.tup xs)) : ¬ SegS as lo n x := by
  rintro ⟨j, y, hj, e, z⟩
  obtain ⟨p, _, _, e1, _, e3⟩ := L.kd j y hj e
  rcases z with rfl | rfl
  · rw [h] at e1; cases e1
  · rw [h] at e3; cases e3
theorem LkH.lst (L : LkH K N as a dx lp le lo n H) {x : Addr} {xs : List V} (h : H x = some (.lst xs)) (hn : N x) : ¬ SegS as lo n x := by
  rintro ⟨j, y, hj, e, z⟩
  obtain ⟨p, _, _, e1, _, e3⟩ := L.kd j y hj e
  rcases z with rfl | rfl
  · rw [h] at e1; cases e1
  · exact L.nn _ hn y (List.mem_of_getElem? e) rfl
theorem LkH.notlp (L : LkH K N as a dx lp le lo n H) : ¬ SegS as lo n lp := by
  rintro ⟨j, y, hj, e, z⟩
  obtain ⟨p, _, _, e1, _, e3⟩ := L.kd j y hj e
  rcases z with z | z
  · rw [← z, L.hl] at e1; cases e1
  · exact L.nl y (List.mem_of_getElem? e) z.symm
theorem LkH.nota (L : LkH K N as a dx lp le lo n H) : ¬ SegS as lo n a := by
  rintro ⟨j, y, hj, e, z⟩
  obtain ⟨p, _, _, e1, _, e3⟩ := L.kd j y hj e
  rcases z with z | z
  · rw [← z, L.ha] at e1
    injection e1 with e1
    injection e1 with _ _ e1
    have := congrArg List.length e1
    simp at this
  · rw [← z, L.ha] at e3; cases e3
theorem nodup_at {as : List (Addr × Addr)} {i j : Nat} {x y : Addr × Addr} (n : (as.map (·.1)).Nodup) (h1 : as[i]? = some x) (h2 : as[j]? = some y) (e : x.1 = y.1) : i = j := by
  have e1 : (as.map (·.1))[i]? = some x.1 := by rw [List.getElem?_map, h1]; rfl
  have e2 : (as.map (·.1))[j]? = some x.1 := by rw [List.getElem?_map, h2, e]; rfl
  exact (List.getElem?_inj (List.getElem?_eq_some_iff.mp e1).1 n).mp (e1.trans e2.symm)
theorem nodup_at2 {as : List (Addr × Addr)} {i j : Nat} {x y : Addr × Addr} (n : (as.map (·.2)).Nodup) (h1 : as[i]? = some x) (h2 : as[j]? = some y) (e : x.2 = y.2) : i = j := by
  have e1 : (as.map (·.2))[i]? = some x.2 := by rw [List.getElem?_map, h1]; rfl
  have e2 : (as.map (·.2))[j]? = some x.2 := by rw [List.getElem?_map, h2, e]; rfl
  exact (List.getElem?_inj (List.getElem?_eq_some_iff.mp e1).1 n).mp (e1.trans e2.symm)
/-- a point outside a piece -/
theorem LkH.out (L : LkH K N as a dx lp le lo n H) {i j2 m : Nat} {y : Addr × Addr} (hi : i < n) (h : as[lo + i]? = some y) (hm : j2 + m ≤ n) (ho : i < j2 ∨ j2 + m ≤ i) : ¬ SegS as (lo + j2) m y.1 ∧ ¬ SegS as (lo + j2) m y.2 := by
  obtain ⟨p, _, _, e1, _, e3⟩ := L.kd i y hi h
  refine ⟨?_, ?_⟩
  · rintro ⟨j, y', hj, e, z⟩
    obtain ⟨p', _, _, f1, _, f3⟩ := L.kd (j2 + j) y' (by omega) (by rw [← Nat.add_assoc]; exact e)
    rcases z with z | z
    · have := nodup_at L.n1 h e z
      omega
    · rw [← z, e1] at f3
      cases f3
  · rintro ⟨j, y', hj, e, z⟩
    obtain ⟨p', _, _, f1, _, f3⟩ := L.kd (j2 + j) y' (by omega) (by rw [← Nat.add_assoc]; exact e)
    rcases z with z | z
    · rw [← z, e3] at f1
      cases f1
    · have := nodup_at2 L.n2 h e z
      omega
theorem LkH.tups (L : LkH K N as a dx lp le lo n H) (s : SmB (SegS as lo n) H H1) : Tups H H1 := fun x xs e => s.sm x _ e (L.tup e)
/-- points outside of what is written stay -/
theorem LkH.keep (L : LkH K N as a dx lp le lo n H) {H2 : Hp} {i j2 m : Nat} {pts : List Pt} (seg : Seg K H1 as (lo + i) pts) (hi : i + pts.length ≤ n) (s : SameB (SegS as (lo + j2) m) H1 H2) (t : Tups H1 H2) (hm : j2 + m ≤ n) (ho : i + pts.length ≤ j2 ∨ j2 + m ≤ i) : Seg K H2 as (lo + i) pts := fun j p e => by
  obtain ⟨y, e1, e2⟩ := seg j p e
  have hj := (List.getElem?_eq_some_iff.mp e).1
  have o := L.out (i := i + j) (j2 := j2) (m := m) (y := y) (by omega) (by rw [← Nat.add_assoc]; exact e1) hm (by omega)
  exact ⟨y, e1, e2.keep t (fun u z => s _ u z o.1) (fun u z => s _ u z o.2)⟩
/-- what is known stays known -/
theorem LkH.next (L : LkH K N as a dx lp le lo n H) (s : SmB (SegS as lo n) H H1) (kd : ∀ (j : Nat) (y : Addr × Addr), j < n → as[lo + j]? = some y → ∃ p, PO K H1 y.1 y.2 p) : LkH K N as a dx lp le lo n H1 :=
  ⟨s.sm _ _ L.ha L.nota, s.sm _ _ L.hl L.notlp, L.n1, L.n2, L.nn, L.nl, kd⟩
theorem LkH.fs (L : LkH K N as a dx lp le lo n H) (s : SmB (SegS as lo n) H H1) {d : Nat} {q : Addr} {pl : Nat} {b : List Sm} (f : Fs N H d q pl b) : Fs N H1 d q pl b := Fs.imp (fun x l hn e => ⟨hn, s.sm _ _ e (L.lst e hn)⟩) (L.tups s) f
theorem LkH.fsI (L : LkH K N as a dx lp le lo n H) (s : SmB (SegS as lo n) H H1) {d : Nat} {v : V} {pl : Nat} {b : Sm} (f : FsI (Fs N H d) N H v pl b) : FsI (Fs N H1 d) N H1 v pl b := f.imp (fun _ _ _ z => L.fs s z) (fun x l hn e => ⟨hn, s.sm _ _ e (L.lst e hn)⟩) (L.tups s)
end
section
variable {P : Program} {w : World} {K : PySem.W.Frag} {mg : Str → Option Value} {base : Heap}
def sp_link (K : PySem.W.Frag) (n : Nat) : Sp := fun vs H Q _ => ∃ (a dx lp le q : Addr) (k pl bh : Nat) (b : List Sm) (as : List (Addr × Addr)) (N : Addr → Prop), vs = [.ref a, .ref q, .int bh] ∧ LkH K N as a dx lp le pl (bdS b) H ∧ Fs N H n q pl b ∧ Seg K H as pl ((ptB k 0 0 b).map rawP) ∧ bdS b ≤ 10000 ∧
  ∀ H', SmB (SegS as pl (bdS b)) H H' → Seg K H' as pl (ptB k pl bh b) → Q .non H'
theorem link_no : ∀ vs H Q E, ¬ sp_link K 0 vs H Q E := fun vs H Q E ⟨_, _, _, _, _, _, _, _, _, _, _, _, _, h, _⟩ => h
abbrev n_Points_link : List Str := ["self", "firsts", "behind", "index", "place", "inner", "follows", "point", "back", "body"]
theorem sc_Points_link : FnScope n_Points_link ["self", "firsts", "behind"] (defScope s_Points_link) := ⟨rfl, rfl, rfl, by decide +kernel, rfl, by decide +kernel, by decide +kernel⟩
theorem ok_link {n m : Nat} (T : Env K mg) (c_Points_link : Met P w K mg base m (He.ga K "Points") "link" (sp_link K n) []) : Met P w K mg base (m + 1) (He.ga K "Points") "link" (sp_link K (n + 1)) [] := by
  obtain ⟨fd, F⟩ := T.F_Points_link
  refine met_by F T.c_Points T.m_Points_link (F.bindsN fun _ _ _ _ _ _ us hl => match us, hl with | [_, _, _], _ => rfl) sc_Points_link (fun vs H Q E h => ?_) (fun cdv A outer s H vs Q E hr h => ?_)
  · obtain ⟨a, dx, lp, le, q, k, pl, bh, b, as, N, rfl, _⟩ := h
    rfl
  obtain ⟨a, dx, lp, le, q, k, pl, bh, b, as, N, rfl, L, ⟨nq, l, hq, hll, items⟩, raw, hsz, fin⟩ := h
  refine ⟨_, pss_one (ps_for PassesOwn.never rfl (pi_enum (by rfl) T.f_enumerate (pa_cons (pv 1) pa_nil)) (pg_tup (by rfl) (pgs_cons (pg_name (i := 3) sc_Points_link.nd rfl (Or.inl rfl)) (pgs_cons (pg_tup (by rfl) (pgs_cons (pg_name (i := 4) sc_Points_link.nd rfl (Or.inl rfl)) (pgs_cons (pg_name (i := 5) sc_Points_link.nd rfl (Or.inl rfl)) pgs_nil))) pgs_nil)))
        (pss_cons (ps_set (i := 6) sc_Points_link.nd rfl (Or.inl rfl) (pv 2))
        (C8.pss_cut (ps_if (pt_cmpR op_lt (pe_op op_add (pv 3) pe_int) (pe_callB call_len_seq (by rfl) T.f_len (by decide +kernel) (pa_cons (pv 1) pa_nil)) (nomark _))
          (pss_one (ps_set (i := 6) sc_Points_link.nd rfl (Or.inl rfl) (pe_ix ix_tup (pe_ix ix_list (pv 1) (pe_op op_add (pv 3) pe_int) (fun _ _ => rfl)) pe_int (fun _ _ => rfl))))
          pss_nil)
        (pss_cons (ps_set (i := 7) sc_Points_link.nd rfl (Or.inl rfl) (pe_ix ix_list (pe_fld (pv 0) rfl) (pv 4) (fun _ _ => rfl)))
        (pss_cons (ps_fld (pv 7) (pv 6) rfl)
        (pss_cons (ps_set (i := 8) sc_Points_link.nd rfl (Or.inl rfl) (pv 6))
        (C8.pss_cut (ps_if (pt_cmpR op_in_seq (pe_ix ix_tup (pe_fld (pv 7) rfl) pe_int (fun _ _ => rfl)) (pe_tup (pa_cons pe_str (pa_cons pe_str pa_nil))) (by rfl))
          (pss_one (ps_set (i := 8) sc_Points_link.nd rfl (Or.inl rfl) (pv 4)))
          pss_nil)
        (pss_one (ps_for PassesOwn.never rfl (pi_list (pv 5)) (pg_name (i := 9) sc_Points_link.nd rfl (Or.inl rfl))
          (C8.pss_cut (ps_expr (pe_bm PySem.F.plainAttrs_list PySem.F.slot_list_append PySem.F.type_list_append mt_append (pe_fld (pv 7) rfl) (pa_cons (pe_ifExp (pt_cmpR op_gt (pe_callB call_len_seq (by rfl) T.f_len (by decide +kernel) (pa_cons (pv 9) pa_nil)) pe_int (nomark _)) (pe_ix ix_tup (pe_ix ix_list (pv 9) pe_int (fun _ _ => rfl)) pe_int (fun _ _ => rfl)) (pv 8)) pa_nil)))
          (pss_one (ps_expr (pe_mt c_Points_link hr (by omega) (pv 0) (pa_cons (pv 9) (pa_cons (pv 8) pa_nil))))))))))))))), ?_⟩
  have lb := len_bdS b
  refine ⟨_, rfl, q, _, rfl, SqL.of hq, ?_⟩
  refine for_it (walk_enum (K := K) (a := q) (xs := l)) (fun i σ H1 => ∃ (x3 x4 x5 x6 x7 x8 x9 : Option V), σ = [some (.ref a), some (.ref q), some (.int bh), x3, x4, x5, x6, x7, x8, x9] ∧ SmB (SegS as pl (bdS (b.take i))) H H1 ∧ Seg K H1 as pl (ptPre k pl bh b i))
    ⟨_, _, _, _, _, _, _, rfl, SmB.refl, by rw [ptPre_zero]; exact fun j p e => by simp at e⟩ (fun i σ H1 hi ⟨_, _, _, _, _, _, _, _, sm, _⟩ => SqL.of (sm.sm _ _ hq fun z => L.lst hq nq (z.wide (Nat.le_refl _) (by have := bdS_take_le b i; omega)))) ?_ ?_
  · rintro i y σ H1 _ hi ⟨x3, x4, x5, x6, x7, x8, x9, rfl, sm1, seg1⟩ ⟨U, _, iv, rfl, hU, rfl, e1, e2⟩
    cases e1
    have hib : i < b.length := by omega
    obtain ⟨s, hs⟩ : ∃ s, b[i]? = some s := ⟨_, List.getElem?_eq_getElem hib⟩
    have hbi := bdS_take hs
    have hbl := bdS_take_le b (i + 1)
    have hbl0 := bdS_take_le b i
    have hss := s.size_bods
    have hpos := s.size_pos
    have wd : ∀ {m : Nat}, m ≤ bdS b → ∀ {H2 : Hp}, SmB (SegS as pl m) H H2 → SmB (SegS as pl (bdS b)) H H2 := fun hm H2 z => z.wide fun x y => y.wide (Nat.le_refl _) (by omega)
    obtain ⟨t, r, ys, rfl, ht, nr, hr, hyl, subs⟩ := items i iv s e2 hs
    have sm2 := sm1.new (o := .tup [V.int (i : Nat), V.ref t]) hU
    have hU2 : (upd H1 U (.tup [V.int (i : Nat), V.ref t])) U = some (.tup [V.int (i : Nat), V.ref t]) := upd_same
    have seg2 : Seg K (upd H1 U (.tup [V.int (i : Nat), V.ref t])) as pl (ptPre k pl bh b i) := fun j p e => let ⟨y, z1, z2⟩ := seg1 j p e; ⟨y, z1, z2.same (same_upd hU)⟩
    generalize upd H1 U (.tup [V.int (i : Nat), V.ref t]) = H2 at *
    have tup2 : ∀ {x : Addr} {xs : List V}, H x = some (.tup xs) → H2 x = some (.tup xs) := fun e => (wd hbl0 sm2).sm _ _ e (L.tup e)
    have lst2 : ∀ {x : Addr} {xs : List V}, H x = some (.lst xs) → N x → H2 x = some (.lst xs) := fun e hn => (wd hbl0 sm2).sm _ _ e (L.lst e hn)
    refine ⟨U, _, rfl, SqT.of hU2, rfl, _, _, rfl, _, _, rfl, t, _, rfl, SqT.of (tup2 ht), rfl, _, _, rfl, _, _, rfl, rfl, rfl, ?_⟩
    -- what follows it
    have efol : ∀ z : Nat, z = pl + bdS (b.take i) + s.size → (if i + 1 < b.length then z else bh) = ent (pl + bdS (b.take i) + s.size) bh (b.drop (i + 1)) := by
      rintro z rfl
      by_cases c : i + 1 < b.length
      · rw [if_pos c, List.drop_eq_getElem_cons c]
        rfl
      · rw [if_neg c, List.drop_eq_nil_of_le (by omega)]
        rfl
    generalize hf : ent (pl + bdS (b.take i) + s.size) bh (b.drop (i + 1)) = fol at efol
    generalize hplc : pl + bdS (b.take i) = place at *
    refine ⟨_, rfl, fun σ' H' => H' = H2 ∧ σ' = [some (.ref a), some (.ref q), some (.int bh), some (.int (i : Nat)), some (.int place), some (.ref r), some (.int fol), x7, x8, x9], ?_, ?_⟩
    · refine ⟨_, rfl, _, _, rfl, rfl, _, rfl, q, _, rfl, .inl (SqL.of (lst2 hq nq)), _, _, rfl, rfl, _, rfl, ?_⟩
      refine ite2 (fun c => ?_) (fun c => ?_)
      · have c1 : (i : Int) + 1 < (l.length : Nat) := of_decide_eq_true c
        have c2 : i + 1 < b.length := by omega
        obtain ⟨s', hs'⟩ : ∃ s', b[i + 1]? = some s' := ⟨_, List.getElem?_eq_getElem c2⟩
        obtain ⟨v', hv'⟩ : ∃ v', l[i + 1]? = some v' := ⟨_, List.getElem?_eq_getElem (by omega)⟩
        obtain ⟨t', r', _, rfl, ht', _⟩ := items (i + 1) v' s' hv' hs'
        have e3 := efol (pl + bdS (b.take (i + 1))) (by omega)
        rw [if_pos c2] at e3
        refine ⟨_, rfl, _, rfl, _, _, rfl, rfl, q, _, _, _, rfl, rfl, SqL.of (lst2 hq nq), (by rw [show (i : Int) + 1 = ((i + 1 : Nat) : Int) by omega]; exact atI_nat hv'), t', _, _, _, rfl, rfl, SqT.of (tup2 ht'), at0, ?_⟩
        rw [← e3]
        exact ⟨rfl, rfl⟩
      · have c1 : ¬ (i : Int) + 1 < (l.length : Nat) := fun z => c (decide_eq_true z)
        have e3 := efol _ rfl
        rw [if_neg (by omega)] at e3
        rw [← e3]
        exact ⟨rfl, rfl⟩
    rintro σ' H' ⟨rfl, rfl⟩
    -- the point
    have eraw : (ptB k 0 0 b).map rawP = (ptPre k 0 0 b i).map rawP ++ (⟨k, some s, none, []⟩ :: ((ptBs k 0 0 s.bods).map rawP ++ ((ptB k 0 0 b).drop (bdS (b.take (i + 1)))).map rawP)) := by
      have gen : ∀ (bs : List (List Sm)) (x1 x2 y1 y2 : Nat), (ptBs k x1 x2 bs).map rawP = (ptBs k y1 y2 bs).map rawP := by
        intro bs
        induction bs with
        | nil => intros; rfl
        | cons c r ih =>
          intro x1 x2 y1 y2
          simp only [ptBs, List.map_append]
          rw [raw_B k x2 x1 y2 y1 c, ih x1 (x2 + bdS c) y1 (y2 + bdS c)]
      have e5 : (ptB k 0 0 b).map rawP = (ptPre k 0 0 b (i + 1)).map rawP ++ ((ptB k 0 0 b).drop (bdS (b.take (i + 1)))).map rawP := by
        rw [← List.map_append]
        unfold ptPre
        rw [List.take_append_drop]
      rw [e5, ptB_split k b 0 0 i s hs, ptS_eq, List.map_append, List.map_cons, gen _ _ _ 0 0, List.append_assoc]
      rfl
    have raw' := raw
    rw [eraw] at raw'
    have lpre : ((ptPre k 0 0 b i).map rawP).length = bdS (b.take i) := by rw [List.length_map, ptPre_len]
    have rawR := raw'.right
    rw [lpre, hplc] at rawR
    obtain ⟨y, hy, py⟩ := rawR 0 _ rfl
    rw [Nat.add_zero] at hy
    have hyi : as[pl + bdS (b.take i)]? = some y := by rw [hplc]; exact hy
    have rawS : Seg K H as (place + 1) ((ptBs k 0 0 s.bods).map rawP) := fun j p e => by
      obtain ⟨y2, z1, z2⟩ := rawR (1 + j) p (by rw [Nat.add_comm 1 j, List.getElem?_cons_succ, List.getElem?_append_left (List.getElem?_eq_some_iff.mp e).1]; exact e)
      exact ⟨y2, by rw [Nat.add_assoc]; exact z1, z2⟩
    have out0 := L.out (i := bdS (b.take i)) (j2 := 0) (m := bdS (b.take i)) (y := y) (by omega) hyi (by omega) (.inr (by omega))
    rw [Nat.add_zero] at out0
    have smH := wd hbl0 sm2
    have tH : Tups H H' := L.tups smH
    obtain ⟨dy, sv, o1, o2, o3⟩ := id py
    have o1' := sm2.sm _ _ o1 out0.1
    have o3' := sm2.sm _ _ o3 out0.2
    have hS1 : SegS as pl (bdS (b.take i) + 1) y.1 := ⟨bdS (b.take i), y, by omega, hyi, .inl rfl⟩
    have hS2 : SegS as pl (bdS (b.take i) + 1) y.2 := ⟨bdS (b.take i), y, by omega, hyi, .inr rfl⟩
    have sm3 : SmB (SegS as pl (bdS (b.take i) + 1)) H H' := sm2.wide fun x z => z.wide (Nat.le_refl _) (by omega)
    have aH := smH.sm _ _ L.ha L.nota
    have lH := smH.sm _ _ L.hl L.notlp
    refine ⟨_, rfl, a, _, dx, _, _, rfl, aH, T.c_Points, T.n_Points_points, rfl, _, rfl, lp, _, place, _, rfl, rfl, SqL.of lH, atI_nat (by rw [List.getElem?_map, hy]; rfl), ?_⟩
    refine ⟨_, rfl, _, rfl, y.1, _, dy, _, rfl, o1', T.c_Point, T.n_Point_follows, (by show 4 < 1000; decide), ?_⟩
    rw [show putF (Str.ofString "follows") (V.int fol) [(Str.ofString "procedure", V.int k), (Str.ofString "statement", sv), (Str.ofString "entries", V.ref y.2), (Str.ofString "follows", folV none)] = [(Str.ofString "procedure", V.int k), (Str.ofString "statement", sv), (Str.ofString "entries", V.ref y.2), (Str.ofString "follows", V.int fol)] from rfl]
    have upH : SmB (SegS as (pl + bdS (b.take i)) 1) H' (upd H' y.1 (.ins (He.ga K "Point") dy [(Str.ofString "procedure", V.int k), (Str.ofString "statement", sv), (Str.ofString "entries", V.ref y.2), (Str.ofString "follows", V.int fol)])) := SmB.refl.put ⟨0, y, by omega, hyi, .inl rfl⟩
    have tu : Tups H' (upd H' y.1 (.ins (He.ga K "Point") dy [(Str.ofString "procedure", V.int k), (Str.ofString "statement", sv), (Str.ofString "entries", V.ref y.2), (Str.ofString "follows", V.int fol)])) := fun x u z => by rw [upd_ne (fun z2 => by rw [z2, o1'] at z; cases z)]; exact z
    have y12 : y.2 ≠ y.1 := fun z => by rw [z, o1'] at o3'; cases o3'
    have sm4 := sm3.put (o := .ins (He.ga K "Point") dy [(Str.ofString "procedure", V.int k), (Str.ofString "statement", sv), (Str.ofString "entries", V.ref y.2), (Str.ofString "follows", V.int fol)]) hS1
    have py4 : PO K (upd H' y.1 (.ins (He.ga K "Point") dy [(Str.ofString "procedure", V.int k), (Str.ofString "statement", sv), (Str.ofString "entries", V.ref y.2), (Str.ofString "follows", V.int fol)])) y.1 y.2 ⟨k, some s, some fol, []⟩ := ⟨dy, sv, upd_same, (o2.at tH).at tu, by rw [upd_ne y12]; exact o3'⟩
    have lpr : (ptPre k pl bh b i).length = bdS (b.take i) := ptPre_len ..
    have seg4 : Seg K (upd H' y.1 (.ins (He.ga K "Point") dy [(Str.ofString "procedure", V.int k), (Str.ofString "statement", sv), (Str.ofString "entries", V.ref y.2), (Str.ofString "follows", V.int fol)])) as pl (ptPre k pl bh b i) := L.keep (i := 0) seg2 (by omega) upH.sm tu (by omega) (.inl (by omega))
    have o14 : (upd H' y.1 (.ins (He.ga K "Point") dy [(Str.ofString "procedure", V.int k), (Str.ofString "statement", sv), (Str.ofString "entries", V.ref y.2), (Str.ofString "follows", V.int fol)])) y.1 = some (.ins (He.ga K "Point") dy [(Str.ofString "procedure", V.int k), (Str.ofString "statement", sv), (Str.ofString "entries", V.ref y.2), (Str.ofString "follows", V.int fol)]) := upd_same
    have tH4 := tH.trans tu
    generalize upd H' y.1 (.ins (He.ga K "Point") dy [(Str.ofString "procedure", V.int k), (Str.ofString "statement", sv), (Str.ofString "entries", V.ref y.2), (Str.ofString "follows", V.int fol)]) = H3 at *
    -- where its bodies lead back to
    obtain ⟨rest, hrest⟩ := s.d_tag
    have rs' : ∃ (u : Addr) (vs : List V), sv = .ref u ∧ H u = some (.tup (.str s.tag :: vs)) := by
      have o2 : Rp H s.d sv := o2
      rw [hrest] at o2
      obtain ⟨u, vs, e, hu, v0, r0, e2, e3, _⟩ := o2
      exact ⟨u, r0, e, by rw [hu, e2, (show v0 = V.str s.tag from e3)]⟩
    obtain ⟨u, vs, rfl, hu⟩ := rs'
    refine ⟨_, rfl, fun σ' H4 => Same H3 H4 ∧ σ' = [some (.ref a), some (.ref q), some (.int bh), some (.int (i : Nat)), some (.int place), some (.ref r), some (.int fol), some (.ref y.1), some (.int (s.back place fol)), x9], ?_, ?_⟩
    · refine ⟨_, rfl, y.1, _, dy, _, _, rfl, o14, T.c_Point, T.n_Point_statement, rfl, u, _, _, _, rfl, rfl, SqT.of (tH4 _ _ hu), at0, (by show 2 ≤ sizeLine; decide), fun z hz => ⟨z, _, rfl, .inr (SqT.of upd_same), rfl, rfl, _, rfl, ?_⟩⟩
      show if inV (V.str s.tag) [V.str "while", V.str "repeat"] = true then _ else _
      rw [inv_loop]
      refine ite2 (fun c => ?_) (fun c => ?_)
      · exact ⟨_, rfl, same_upd hz, by unfold Sm.back; rw [if_pos c]; rfl⟩
      · exact ⟨same_upd hz, by unfold Sm.back; rw [if_neg c]; rfl⟩
    rintro σ' H4 ⟨s34, rfl⟩
    have sm5 := sm4.trans s34.smb
    have py5 := py4.same s34
    have seg5 : Seg K H4 as pl (ptPre k pl bh b i) := fun j p e => let ⟨y, z1, z2⟩ := seg4 j p e; ⟨y, z1, z2.same s34⟩
    have tH5 := tH4.trans s34.tups
    generalize hback : s.back place fol = back
    clear seg4 seg2 sm2 sm1 seg1 py4 o14 upH tu s34 sm4 sm3 aH lH o1' o3' smH tH tH4
    have small2 := s.len_bods
    have hr5 : ∀ {H5 : Hp} {m : Nat}, m ≤ bdS b → SmB (SegS as pl m) H H5 → H5 r = some (.lst ys) := fun hm z => (wd hm z).sm _ _ hr (L.lst hr nr)
    refine ⟨_, rfl, r, rfl, ⟨_, SqL.of (hr5 (by omega) sm5)⟩, for_it (walk_list (K := K) (a := r) (xs := ys)) (fun j σ H5 => ∃ (x9 : Option V), σ = [some (.ref a), some (.ref q), some (.int bh), some (.int (i : Nat)), some (.int place), some (.ref r), some (.int fol), some (.ref y.1), some (.int back), x9] ∧
        SmB (SegS as pl (bdS (b.take i) + 1 + ((s.bods.take j).map bdS).sum)) H H5 ∧ ((s.bods.take j).map bdS).sum ≤ (s.bods.map bdS).sum ∧ PO K H5 y.1 y.2 ⟨k, some s, some fol, entsOf back (place + 1) (s.bods.take j)⟩ ∧ Seg K H5 as pl (ptPre k pl bh b i) ∧ Seg K H5 as (place + 1) (ptBs k back (place + 1) (s.bods.take j)))
      ⟨_, rfl, sm5, Nat.zero_le _, py5, seg5, fun j p e => by simp [ptBs] at e⟩ (fun j σ H5 _ ⟨_, _, z, hle, _⟩ => SqL.of (hr5 (by omega) z)) ?_ ?_⟩
    · rintro j yv σ _ H5 hj ⟨y9, rfl, sm6, hle, py6, seg6, segB⟩ ⟨rfl, hyj⟩
      have hjb : j < s.bods.length := by omega
      obtain ⟨c, hc⟩ : ∃ c, s.bods[j]? = some c := ⟨_, List.getElem?_eq_getElem hjb⟩
      obtain ⟨p, rfl, fsp⟩ := subs j yv c hyj hc
      have eT : s.bods.take (j + 1) = s.bods.take j ++ [c] := by rw [List.take_add_one, hc]; rfl
      have hsum : ((s.bods.take (j + 1)).map bdS).sum ≤ (s.bods.map bdS).sum := by
        conv => rhs; rw [← List.take_append_drop (j + 1) s.bods, List.map_append, List.sum_append]
        exact Nat.le_add_right _ _
      have hsum2 : ((s.bods.take (j + 1)).map bdS).sum = ((s.bods.take j).map bdS).sum + bdS c := by
        rw [eT, List.map_append, List.sum_append]
        simp
      have rawC : Seg K H as (place + 1 + ((s.bods.take j).map bdS).sum) ((ptB k 0 0 c).map rawP) := by
        have e6 : s.bods = s.bods.take j ++ ([c] ++ s.bods.drop (j + 1)) := by
          have h1 := List.take_append_drop (j + 1) s.bods
          rw [eT, List.append_assoc] at h1
          exact h1.symm
        have r1 := rawS
        rw [e6, ptBs_app, ptBs_app, List.map_append, List.map_append] at r1
        have r2 := r1.right.left
        rw [List.length_map, ptBs_len] at r2
        have e7 : ptBs k 0 (0 + ((s.bods.take j).map bdS).sum) [c] = ptB k (0 + ((s.bods.take j).map bdS).sum) 0 c := by simp [ptBs]
        rw [e7, raw_B k _ 0 0 0 c] at r2
        exact r2
      generalize hin : place + 1 + ((s.bods.take j).map bdS).sum = inside at *
      have hins : inside = pl + (bdS (b.take i) + 1 + ((s.bods.take j).map bdS).sum) := by omega
      have tH6 : Tups H H5 := L.tups (wd (by omega) sm6)
      -- its entry
      refine ⟨fun σ' H6 => H6 = upd H5 y.2 (.lst ((entsOf back (place + 1) (s.bods.take j) ++ [ent inside back c]).map fun n : Nat => V.int (n : Int))) ∧ σ' = [some (.ref a), some (.ref q), some (.int bh), some (.int (i : Nat)), some (.int place), some (.ref r), some (.int fol), some (.ref y.1), some (.int back), some (.ref p)], ?_, ?_⟩
      · obtain ⟨dx6, sv6, q1, q2, q3⟩ := id py6
        refine ⟨_, rfl, y.1, _, dx6, _, _, rfl, q1, T.c_Point, T.n_Point_entries, rfl, .inl ⟨rfl, _, SqL.of q3⟩, ?_⟩
        have lE : (entsOf back (place + 1) (s.bods.take j)).length ≤ 2 := by rw [entsOf_len, List.length_take]; omega
        obtain ⟨hp, lc, eL, eI⟩ : ∃ hp : H5 p ≠ none, ∃ lc, H5 p = some (.lst lc) ∧ lc.length = c.length := by
          cases n with
          | zero => exact fsp.elim
          | succ n =>
            obtain ⟨np, lc, h1, h2, h3⟩ := fsp
            have z := (wd (by omega) sm6).sm _ _ h1 (L.lst h1 np)
            exact ⟨by rw [z]; simp, lc, z, h2⟩
        refine ⟨_, rfl, p, _, rfl, .inl (SqL.of eL), _, _, rfl, rfl, _, rfl, ?_⟩
        refine ite2 (fun z => ?_) (fun z => ?_)
        · have c0 : 0 < c.length := by
            have : (0 : Int) < (lc.length : Nat) := of_decide_eq_true z
            omega
          obtain ⟨s0, hs0⟩ : ∃ s0, c[0]? = some s0 := ⟨_, List.getElem?_eq_getElem c0⟩
          cases n with
          | zero => exact fsp.elim
          | succ n =>
            obtain ⟨np, lc', h1, h2, h3⟩ := fsp
            have z1 := (wd (by omega) sm6).sm _ _ h1 (L.lst h1 np)
            rw [z1] at eL
            cases eL
            obtain ⟨v0, hv0⟩ : ∃ v0, lc[0]? = some v0 := ⟨_, List.getElem?_eq_getElem (by omega)⟩
            obtain ⟨t0, _, _, rfl, ht0, _⟩ := h3 0 v0 s0 hv0 hs0
            refine ⟨_, rfl, p, _, _, _, rfl, rfl, SqL.of z1, atI_nat hv0, t0, _, _, _, rfl, rfl, SqT.of (tH6 _ _ ht0), at0, y.2, _, _, rfl, rfl, q3, smallL (by rw [List.length_map]; exact Nat.le_trans lE (by decide)), ?_, rfl⟩
            rw [List.map_append]
            congr 3
            cases c with
            | nil => simp at c0
            | cons a r =>
              show [V.int ((inside + bdS (List.take 0 (a :: r)) : Nat) : Int)] = [V.int (ent inside back (a :: r) : Nat)]
              rfl
        · have c0 : c = [] := by
            have : ¬ (0 : Int) < (lc.length : Nat) := fun y => z (decide_eq_true y)
            exact List.eq_nil_of_length_eq_zero (by omega)
          refine ⟨_, rfl, y.2, _, _, rfl, rfl, q3, smallL (by rw [List.length_map]; exact Nat.le_trans lE (by decide)), ?_, rfl⟩
          rw [List.map_append, c0]
          rfl
      rintro σ' H6 ⟨rfl, rfl⟩
      have upE : SmB (SegS as (pl + bdS (b.take i)) 1) H5 (upd H5 y.2 (.lst ((entsOf back (place + 1) (s.bods.take j) ++ [ent inside back c]).map fun n : Nat => V.int (n : Int)))) := SmB.refl.put ⟨0, y, by omega, hyi, .inr rfl⟩
      have tE : Tups H5 (upd H5 y.2 (.lst ((entsOf back (place + 1) (s.bods.take j) ++ [ent inside back c]).map fun n : Nat => V.int (n : Int)))) := tups_lst (let ⟨_, _, _, _, z⟩ := py6; z)
      have sm7 := sm6.put (o := .lst ((entsOf back (place + 1) (s.bods.take j) ++ [ent inside back c]).map fun n : Nat => V.int (n : Int))) (show SegS as pl _ y.2 from ⟨bdS (b.take i), y, by omega, hyi, .inr rfl⟩)
      have py7 : PO K (upd H5 y.2 (.lst ((entsOf back (place + 1) (s.bods.take j) ++ [ent inside back c]).map fun n : Nat => V.int (n : Int)))) y.1 y.2 ⟨k, some s, some fol, entsOf back (place + 1) (s.bods.take (j + 1))⟩ := by
        obtain ⟨dx6, sv6, q1, q2, q3⟩ := id py6
        refine ⟨dx6, sv6, by rw [upd_ne (Ne.symm y12)]; exact q1, q2.at tE, ?_⟩
        rw [upd_same, eT, entsOf_snoc, hin]
      have seg7 : Seg K (upd H5 y.2 (.lst ((entsOf back (place + 1) (s.bods.take j) ++ [ent inside back c]).map fun n : Nat => V.int (n : Int)))) as pl (ptPre k pl bh b i) := L.keep (i := 0) seg6 (by omega) upE.sm tE (by omega) (.inl (by omega))
      have segB7 : Seg K (upd H5 y.2 (.lst ((entsOf back (place + 1) (s.bods.take j) ++ [ent inside back c]).map fun n : Nat => V.int (n : Int)))) as (place + 1) (ptBs k back (place + 1) (s.bods.take j)) := by
        have z := L.keep (i := bdS (b.take i) + 1) (H1 := H5) (pts := ptBs k back (place + 1) (s.bods.take j)) (by rw [← Nat.add_assoc, hplc]; exact segB) (by rw [ptBs_len]; omega) upE.sm tE (by omega) (.inr (by omega))
        rw [← Nat.add_assoc, hplc] at z
        exact z
      generalize upd H5 y.2 (.lst ((entsOf back (place + 1) (s.bods.take j) ++ [ent inside back c]).map fun n : Nat => V.int (n : Int))) = H7 at *
      have W7 := wd (by omega) sm7
      have t7 : Tups H H7 := L.tups W7
      have raw7 : Seg K H7 as inside ((ptB k 0 0 c).map rawP) := by
        rw [hins] at rawC ⊢
        exact L.keep rawC (by rw [List.length_map, ptB_len]; omega) (j2 := 0) sm7.sm t7 (by omega) (.inr (by omega))
      have L7 : LkH K N as a dx lp le inside (bdS c) H7 := by
        refine ⟨W7.sm _ _ L.ha L.nota, W7.sm _ _ L.hl L.notlp, L.n1, L.n2, L.nn, L.nl, fun j' y' hj' e' => ?_⟩
        have hlt : j' < ((ptB k 0 0 c).map rawP).length := by rw [List.length_map, ptB_len]; exact hj'
        obtain ⟨y2, z1, z2⟩ := raw7 j' _ (List.getElem?_eq_getElem hlt)
        rw [e'] at z1
        cases z1
        exact ⟨_, z2⟩
      refine ⟨_, rfl, a, dx, _, rfl, L7.ha, rfl, _, rfl, _, rfl, a, dx, lp, le, p, k, inside, back, c, as, N, rfl, L7, L.fs W7 fsp, raw7, by omega, fun H8 sm8 seg8 => ?_⟩
      have t8 : Tups H7 H8 := L7.tups sm8
      have sm8' : SameB (SegS as (pl + (bdS (b.take i) + 1 + ((s.bods.take j).map bdS).sum)) (bdS c)) H7 H8 := by rw [← hins]; exact sm8.sm
      refine ⟨some (.ref p), rfl, (sm7.wide fun x z => z.wide (Nat.le_refl _) (by omega)).trans (sm8.wide fun x z => z.wide (by omega) (by omega)), hsum, ?_, ?_, ?_⟩
      · have o := L.out (i := bdS (b.take i)) (j2 := bdS (b.take i) + 1 + ((s.bods.take j).map bdS).sum) (m := bdS c) (y := y) (by omega) hyi (by omega) (.inl (by omega))
        exact py7.keep t8 (fun u z => sm8' _ u z o.1) (fun u z => sm8' _ u z o.2)
      · exact L.keep (i := 0) seg7 (by omega) sm8' t8 (by omega) (.inl (by omega))
      · rw [eT, ptBs_snoc, hin]
        refine Seg.app ?_ (by rw [ptBs_len, hin]; exact seg8)
        have z := L.keep (i := bdS (b.take i) + 1) (H1 := H7) (pts := ptBs k back (place + 1) (s.bods.take j)) (by rw [← Nat.add_assoc, hplc]; exact segB7) (by rw [ptBs_len]; omega) sm8' t8 (by omega) (.inl (by rw [ptBs_len]; omega))
        rw [← Nat.add_assoc, hplc] at z
        exact z
    · rintro σ H5 ⟨y9, rfl, sm6, hle, py6, seg6, segB⟩
      have eall : s.bods.take ys.length = s.bods := by rw [hyl, List.take_length]
      rw [eall] at sm6 py6 segB
      refine ⟨_, _, _, _, _, _, _, rfl, sm6.wide fun x z => z.wide (Nat.le_refl _) (by omega), ?_⟩
      rw [ptB_split k b pl bh i s hs, hplc, hf, ptS_eq, hback]
      refine seg6.app ?_
      rw [lpr, hplc]
      intro j p e
      cases j with
      | zero =>
        cases (show some _ = some p from e)
        exact ⟨y, hy, py6⟩
      | succ j =>
        obtain ⟨y2, z1, z2⟩ := segB j p (by simpa using e)
        exact ⟨y2, by rw [show place + (j + 1) = place + 1 + j by omega]; exact z1, z2⟩
  · rintro σ H1 ⟨x3, x4, x5, x6, x7, x8, x9, rfl, sm1, seg1⟩
    rw [hll, List.take_length] at sm1
    rw [hll, ptPre_all] at seg1
    exact fin H1 sm1 seg1
end
end Pr
/-! The program's map of points, whole. -/
namespace Pr
open PySem PySem.Spec PyProof.Rows L2 RT
open C8 (Cal Met Mak pe_c pe_mk pe_mt pe_mt0)
theorem same_b {S : Addr → Prop} {H0 H H' : Hp} (a : Same H0 H) (b : SameB S H H') (h : ∀ x, S x → H0 x = none) : Same H0 H' := fun c u e => b c u (a c u e) fun z => by
  rw [h c z] at e
  cases e
/-- the map of the program's points -/
def MpAt (K : PySem.W.Frag) (H : Hp) (a : Addr) (G : Prog) : Prop := ∃ (dx lp le : Addr) (as : List (Addr × Addr)), H a = some (.ins (He.ga K "Points") dx [("points", .ref lp), ("entries", .ref le)]) ∧ H lp = some (.lst (refs1 as)) ∧
  H le = some (.lst (G.begs.map fun n : Nat => V.int (n : Int))) ∧ as.length = G.pts.length ∧ Seg K H as 0 G.pts
theorem MpAt.same {K : PySem.W.Frag} {H H' : Hp} {a : Addr} {G : Prog} (h : MpAt K H a G) (e : Same H H') : MpAt K H' a G :=
  let ⟨dx, lp, le, as, h1, h2, h3, h4, h5⟩ := h; ⟨dx, lp, le, as, e _ _ h1, e _ _ h2, e _ _ h3, h4, fun j p z => let ⟨y, a, b⟩ := h5 j p z; ⟨y, a, b.same e⟩⟩
section
variable {P : Program} {w : World} {K : PySem.W.Frag} {mg : Str → Option Value} {base : Heap}
def sp_points (K : PySem.W.Frag) : Sp := fun vs H Q _ => ∃ (x dx pg : Addr) (G : Prog) (H0 : Hp), vs = [.ref x, .ref pg] ∧ Same H0 H ∧ H0 x = none ∧ H x = some (.ins (He.ga K "Points") dx []) ∧ PgAt K H0 pg G ∧ G.Ok ∧ ∀ H', Same H0 H' → MpAt K H' x G → Q .non H'
abbrev n_Points___init__ : List Str := ["self", "program", "index", "_", "body", "begin", "firsts", "end"]
theorem sc_Points___init__ : FnScope n_Points___init__ ["self", "program"] (defScope s_Points___init__) := ⟨rfl, rfl, rfl, by decide +kernel, rfl, by decide +kernel, by decide +kernel⟩
theorem ok_points (T : Env K mg) (c_Point : Mak P w K mg base 1 "Point" (He.ga K "Point") (sp_point K) []) (c_Points_add_body : Met P w K mg base 6 (He.ga K "Points") "add_body" (sp_addb K 4) []) (c_Points_link : Met P w K mg base 4 (He.ga K "Points") "link" (sp_link K 4) []) :
    Mak P w K mg base 7 "Points" (He.ga K "Points") (sp_points K) [] := by
  obtain ⟨fd, F⟩ := T.F_Points___init__
  refine mak_by F T.k_Points T.g_Points (F.bindsN fun _ _ _ _ _ _ us hl => match us, hl with | [_, _], _ => rfl) .nil sc_Points___init__ (fun vs H Q E h => ?_) (fun cdv A outer s H vs Q E hr h => ?_)
  · obtain ⟨x, dx, pg, G, H0, rfl, _⟩ := h
    rfl
  obtain ⟨x, dx, pg, G, H0, rfl, sm, hx0, hx, ⟨dxp, t, xs, hpg, ht, hxs⟩, ok, fin⟩ := h
  refine ⟨_, pss_cons (ps_fld (pv 0) (pe_lst pa_nil) rfl)
      (pss_cons (ps_fld (pv 0) (pe_lst pa_nil) rfl)
      (pss_one (ps_for PassesOwn.never rfl (pi_enumT (by rfl) T.f_enumerate (pa_cons (pe_fld (pv 1) rfl) pa_nil)) (pg_tup (by rfl) (pgs_cons (pg_name (i := 2) sc_Points___init__.nd rfl (Or.inl rfl)) (pgs_cons (pg_tup (by rfl) (pgs_cons (pg_name (i := 3) sc_Points___init__.nd rfl (Or.inl rfl)) (pgs_cons (pg_name (i := 4) sc_Points___init__.nd rfl (Or.inl rfl)) pgs_nil))) pgs_nil)))
        (pss_cons (ps_set (i := 5) sc_Points___init__.nd rfl (Or.inl rfl) (pe_callB call_len_seq (by rfl) T.f_len (by decide +kernel) (pa_cons (pe_fld (pv 0) rfl) pa_nil)))
        (pss_cons (ps_set (i := 6) sc_Points___init__.nd rfl (Or.inl rfl) (pe_mt c_Points_add_body hr (by omega) (pv 0) (pa_cons (pv 2) (pa_cons (pv 4) pa_nil))))
        (pss_cons (ps_set (i := 7) sc_Points___init__.nd rfl (Or.inl rfl) (pe_callB call_len_seq (by rfl) T.f_len (by decide +kernel) (pa_cons (pe_fld (pv 0) rfl) pa_nil)))
        (pss_cons (ps_expr (pe_bm PySem.F.plainAttrs_list PySem.F.slot_list_append PySem.F.type_list_append mt_append (pe_fld (pv 0) rfl) (pa_cons (pe_mk c_Point hr (by omega) rfl (pa_cons (pv 2) (pa_cons pe_non pa_nil))) pa_nil)))
        (pss_cons (ps_expr (pe_mt c_Points_link hr (by omega) (pv 0) (pa_cons (pv 6) (pa_cons (pv 7) pa_nil))))
        (pss_one (ps_expr (pe_bm PySem.F.plainAttrs_list PySem.F.slot_list_append PySem.F.type_list_append mt_append (pe_fld (pv 0) rfl) (pa_cons (pv 5) pa_nil)))))))))))), ?_⟩
  refine ⟨Nat.zero_le _, fun lp hlp => ⟨_, rfl, x, _, dx, _, rfl, same_upd hlp _ _ hx, T.c_Points, T.n_Points_points, (by show 0 < 1000; decide), ?_⟩⟩
  have nlpx : lp ≠ x := Ne.symm (ne_of_none hx hlp)
  have s1 := (sm.new (o := .lst []) hlp).mut (o := .ins (He.ga K "Points") dx (putF "points" (.ref lp) [])) hx0
  have hx1 : (upd (upd H lp (.lst [])) x (.ins (He.ga K "Points") dx (putF "points" (.ref lp) []))) x = some (.ins (He.ga K "Points") dx (putF "points" (.ref lp) [])) := upd_same
  have hl1 : (upd (upd H lp (.lst [])) x (.ins (He.ga K "Points") dx (putF "points" (.ref lp) []))) lp = some (.lst []) := by rw [upd_ne nlpx]; exact upd_same
  have lp0 : H0 lp = none := sm.free hlp
  generalize upd (upd H lp (.lst [])) x (.ins (He.ga K "Points") dx (putF "points" (.ref lp) [])) = H1 at *
  refine ⟨Nat.zero_le _, fun le hle => ⟨_, rfl, x, _, dx, _, rfl, same_upd hle _ _ hx1, T.c_Points, T.n_Points_entries, (by show 1 < 1000; decide), ?_⟩⟩
  rw [show putF (Str.ofString "entries") (V.ref le) (putF (Str.ofString "points") (V.ref lp) []) = [(Str.ofString "points", V.ref lp), (Str.ofString "entries", V.ref le)] from rfl]
  have nlex : le ≠ x := Ne.symm (ne_of_none hx1 hle)
  have nlel : le ≠ lp := Ne.symm (ne_of_none hl1 hle)
  have le0 : H0 le = none := s1.free hle
  have s2 := (s1.new (o := .lst []) hle).mut (o := .ins (He.ga K "Points") dx [(Str.ofString "points", V.ref lp), (Str.ofString "entries", V.ref le)]) hx0
  have hx2 : (upd (upd H1 le (.lst [])) x (.ins (He.ga K "Points") dx [(Str.ofString "points", V.ref lp), (Str.ofString "entries", V.ref le)])) x = some (.ins (He.ga K "Points") dx [(Str.ofString "points", V.ref lp), (Str.ofString "entries", V.ref le)]) := upd_same
  have hl2 : (upd (upd H1 le (.lst [])) x (.ins (He.ga K "Points") dx [(Str.ofString "points", V.ref lp), (Str.ofString "entries", V.ref le)])) lp = some (.lst []) := by rw [upd_ne nlpx]; exact same_upd hle _ _ hl1
  have he2 : (upd (upd H1 le (.lst [])) x (.ins (He.ga K "Points") dx [(Str.ofString "points", V.ref lp), (Str.ofString "entries", V.ref le)])) le = some (.lst []) := by rw [upd_ne nlex]; exact upd_same
  generalize upd (upd H1 le (.lst [])) x (.ins (He.ga K "Points") dx [(Str.ofString "points", V.ref lp), (Str.ofString "entries", V.ref le)]) = H2 at *
  have hxl : xs.length = G.procs.length := by rw [hxs.len, List.length_map]
  have n2 := ok.n2
  have size := ok.size
  refine ⟨_, rfl, pg, _, dxp, _, _, rfl, s2 _ _ hpg, T.c_Program, T.n_Program_procedures, rfl, t, xs, rfl, SqT.of (s2 _ _ ht), ?_⟩
  refine for_it (walk_enumT (K := K) (a := t) (xs := xs)) (fun i σ H3 => ∃ (as : List (Addr × Addr)) (x2 x3 x4 x5 x6 x7 : Option V), σ = [some (.ref x), some (.ref pg), x2, x3, x4, x5, x6, x7] ∧ Same H0 H3 ∧ H3 x = some (.ins (He.ga K "Points") dx [(Str.ofString "points", V.ref lp), (Str.ofString "entries", V.ref le)]) ∧
      H3 lp = some (.lst (refs1 as)) ∧ H3 le = some (.lst ((begs 0 (G.procs.take i)).map fun n : Nat => V.int (n : Int))) ∧ Seg K H3 as 0 (ptP 0 0 (G.procs.take i)) ∧ as.length = psz (G.procs.take i) ∧ (as.map (·.1)).Nodup ∧ (as.map (·.2)).Nodup ∧
      ∀ y ∈ as, H0 y.1 = none ∧ H0 y.2 = none ∧ y.2 ≠ lp ∧ y.2 ≠ le)
    ⟨[], _, _, _, _, _, _, rfl, s2, hx2, hl2, he2, fun j p e => by simp [ptP] at e, rfl, List.nodup_nil, List.nodup_nil, fun y m => by simp at m⟩ (fun i σ H3 _ ⟨_, _, _, _, _, _, _, _, z, _⟩ => SqT.of (z _ _ ht)) ?_ ?_
  · rintro i y σ H3 _ hi ⟨as, x2, x3, x4, x5, x6, x7, rfl, s3, hx3, hl3, he3, seg3, len3, nd1, nd2, fr3⟩ ⟨U, _, v, rfl, hU, rfl, e1, e2⟩
    cases e1
    obtain ⟨d, hdi, rd⟩ := hxs.getV e2
    rw [List.getElem?_map] at hdi
    obtain ⟨pr, hpr, rfl⟩ := Option.map_eq_some_iff.mp hdi
    obtain ⟨q0, us, rfl, hq0, v1, _, rfl, rfl, vb, _, rfl, rb, rfl⟩ := rd
    have su := same_upd (o := .tup [V.int (i : Nat), V.ref q0]) hU
    have s4 := s3.trans su
    have hU4 : (upd H3 U (.tup [V.int (i : Nat), V.ref q0])) U = some (.tup [V.int (i : Nat), V.ref q0]) := upd_same
    have hx4 := su _ _ hx3
    have hl4 := su _ _ hl3
    have he4 := su _ _ he3
    have seg4 : Seg K (upd H3 U (.tup [V.int (i : Nat), V.ref q0])) as 0 (ptP 0 0 (G.procs.take i)) := fun j p e => let ⟨y, a, b⟩ := seg3 j p e; ⟨y, a, b.same su⟩
    generalize upd H3 U (.tup [V.int (i : Nat), V.ref q0]) = H4 at *
    refine ⟨U, _, rfl, SqT.of hU4, rfl, _, _, rfl, _, _, rfl, q0, _, rfl, SqT.of (s4 _ _ hq0), rfl, _, _, rfl, _, _, rfl, rfl, rfl, ?_⟩
    have lr : (refs1 as).length = as.length := List.length_map ..
    have pm := List.mem_of_getElem? hpr
    have etk : G.procs.take (i + 1) = G.procs.take i ++ [pr] := by rw [List.take_add_one, hpr]; rfl
    have psz1 : psz (G.procs.take (i + 1)) = psz (G.procs.take i) + (bdS pr.2 + 1) := by
      rw [← ptP_len2 0 0, ← ptP_len2 0 0, etk, ptP_snoc, List.length_append, List.length_append, ptB_len]
      rfl
    have psz2 : psz (G.procs.take (i + 1)) ≤ 10 := Nat.le_trans (psz_take _ _) ok.psz
    -- begin, firsts
    refine ⟨_, rfl, x, _, dx, _, _, rfl, hx4, T.c_Points, T.n_Points_points, rfl, lp, _, rfl, .inl (SqL.of hl4), ?_⟩
    rw [lr]
    refine ⟨_, rfl, x, dx, _, rfl, hx4, rfl, _, rfl, _, rfl, x, dx, lp, le, i, pr.2, vb, as, rfl, Rp.at s4.tups _ _ rb, Nat.lt_succ_of_le (ok.deep pr pm), hx4, hl4, by omega, fun as1 q H5 b5 fs5 => ?_⟩
    have nxlp : x ≠ lp := Ne.symm nlpx
    have hx5 := b5.sm _ _ hx4 nxlp
    have la1 : as1.length = bdS pr.2 := by rw [b5.len, List.length_map, ptB_len]
    have lr2 : (refs1 (as ++ as1)).length = as.length + bdS pr.2 := by rw [List.length_map, List.length_append, la1]
    refine ⟨_, rfl, x, _, dx, _, _, rfl, hx5, T.c_Points, T.n_Points_points, rfl, lp, _, rfl, .inl (SqL.of b5.lst), ?_⟩
    rw [lr2]
    -- the point behind the body
    refine ⟨_, rfl, x, _, dx, _, _, rfl, hx5, T.c_Points, T.n_Points_points, rfl, .inl ⟨rfl, _, SqL.of b5.lst⟩, ?_⟩
    refine ⟨_, rfl, fun o dxo h1 h2 h3 => ⟨o, dxo, i, none, .non, H5, rfl, made h1 h2, h1, upd_same, rfl, fun e H6 sm6 he hp => ⟨rfl, lp, _, _, rfl, rfl, sm6 _ _ b5.lst, smallL (by rw [lr2]; omega), ?_⟩⟩⟩
    have bo := b5.comp (Same.refl H5) (Bld.one b5.lst sm6 h1 he hp) (fun x z => .inl z)
    have b1 := Bld.one b5.lst sm6 h1 he hp
    have ono : o ≠ lp := fun z => by rw [z, b5.lst] at h1; cases h1
    have eno : e ≠ lp := fun z => by rw [z, b5.lst] at he; cases he
    have hle5 := b5.sm _ _ he4 nlel
    have hle7 := b1.sm _ _ hle5 nlel
    have hx7 := b1.sm _ _ hx5 nxlp
    have fs7 : Fs (fun x => (H4 x = none ∧ ∀ y ∈ as1, y.2 ≠ x) ∧ x ≠ e) (upd H6 lp (.lst (refs1 (as ++ as1) ++ [V.ref o]))) 4 q as.length pr.2 := Fs.imp (fun c u n z => ⟨⟨n, fun y => by
      rw [y, he] at z
      cases z⟩, b1.sm _ _ z (fun y => by
      rw [y, hl4] at n
      cases n.1)⟩) b1.tp fs5
    generalize upd H6 lp (.lst (refs1 (as ++ as1) ++ [V.ref o])) = H7 at *
    have s7 : Same H0 H7 := same_b s4 bo.sm fun c z => by rw [z]; exact lp0
    -- all points so far
    have al4 : ∀ y ∈ as, ∃ p, PO K H4 y.1 y.2 p := fun y m => by
      obtain ⟨j, hj⟩ := List.mem_iff_getElem?.mp m
      have hlt : j < (ptP 0 0 (G.procs.take i)).length := by rw [ptP_len2, ← len3]; exact (List.getElem?_eq_some_iff.mp hj).1
      obtain ⟨y2, z1, z2⟩ := seg4 j _ (List.getElem?_eq_getElem hlt)
      rw [Nat.zero_add, hj] at z1
      cases z1
      exact ⟨_, z2⟩
    have fr7 : ∀ y ∈ as ++ (as1 ++ [(o, e)]), H0 y.1 = none ∧ H0 y.2 = none ∧ y.2 ≠ lp ∧ y.2 ≠ le := fun y m => by
      rcases List.mem_append.mp m with m | m
      · exact fr3 y m
      · obtain ⟨f1, f2⟩ := bo.fr y m
        exact ⟨s4.free f1, s4.free f2, fun z => (by rw [z, hl4] at f2; cases f2), fun z => (by rw [z, he4] at f2; cases f2)⟩
    have nd17 : ((as ++ (as1 ++ [(o, e)])).map (·.1)).Nodup := by
      rw [List.map_append]
      refine List.nodup_append.mpr ⟨nd1, bo.n1, fun c h1 d h2 z => ?_⟩
      obtain ⟨y1, m1, rfl⟩ := List.mem_map.mp h1
      obtain ⟨y2, m2, rfl⟩ := List.mem_map.mp h2
      obtain ⟨p, hp⟩ := al4 y1 m1
      obtain ⟨u, eu⟩ := hp.at1
      rw [z, (bo.fr y2 m2).1] at eu
      cases eu
    have nd27 : ((as ++ (as1 ++ [(o, e)])).map (·.2)).Nodup := by
      rw [List.map_append]
      refine List.nodup_append.mpr ⟨nd2, bo.n2, fun c h1 d h2 z => ?_⟩
      obtain ⟨y1, m1, rfl⟩ := List.mem_map.mp h1
      obtain ⟨y2, m2, rfl⟩ := List.mem_map.mp h2
      obtain ⟨p, hp⟩ := al4 y1 m1
      obtain ⟨u, eu⟩ := hp.at2
      rw [z, (bo.fr y2 m2).2] at eu
      cases eu
    have segA : Seg K H7 (as ++ (as1 ++ [(o, e)])) 0 (ptP 0 0 (G.procs.take i)) := fun j p ee => by
      obtain ⟨y, z1, z2⟩ := seg4 j p ee
      have m := List.mem_of_getElem? z1
      have f := fr3 y m
      refine ⟨y, by rw [List.getElem?_append_left (List.getElem?_eq_some_iff.mp z1).1]; exact z1, z2.keep bo.tp (fun u z => bo.sm _ _ z fun z3 => ?_) (fun u z => bo.sm _ _ z f.2.2.1)⟩
      obtain ⟨_, _, z4, _⟩ := z2
      rw [show y.1 = lp from z3, hl4] at z4
      cases z4
    have segB : Seg K H7 (as ++ (as1 ++ [(o, e)])) as.length ((ptB i 0 0 pr.2).map rawP ++ [⟨i, none, none, []⟩]) := fun j p ee => by
      have hlt : j < (as1 ++ [(o, e)]).length := by rw [bo.len]; exact (List.getElem?_eq_some_iff.mp ee).1
      refine ⟨_, by rw [List.getElem?_append_right (by omega), Nat.add_sub_cancel_left]; exact List.getElem?_eq_getElem hlt, bo.raw j _ p (List.getElem?_eq_getElem hlt) ee⟩
    have hl7 : H7 lp = some (.lst (refs1 (as ++ (as1 ++ [(o, e)])))) := bo.lst
    have lall : (as ++ (as1 ++ [(o, e)])).length = as.length + bdS pr.2 + 1 := by rw [List.length_append, List.length_append, la1]; rfl
    have Lall : LkH K (fun x => (H4 x = none ∧ ∀ y ∈ as1, y.2 ≠ x) ∧ x ≠ e) (as ++ (as1 ++ [(o, e)])) x dx lp le 0 (as.length + bdS pr.2 + 1) H7 := by
      refine ⟨hx7, hl7, nd17, nd27, fun c n y m => ?_, fun y m => (fr7 y m).2.2.1, fun j y hj ee => ?_⟩
      · rcases List.mem_append.mp m with m | m
        · obtain ⟨p, hp⟩ := al4 y m
          obtain ⟨u, eu⟩ := hp.at2
          exact fun z => by rw [z, n.1.1] at eu; cases eu
        · rcases List.mem_append.mp m with m | m
          · exact n.1.2 y m
          · have ey : y = (o, e) := by simpa using m
            rw [ey]
            exact Ne.symm n.2
      · rw [Nat.zero_add] at ee
        by_cases c : j < as.length
        · have hlt : j < (ptP 0 0 (G.procs.take i)).length := by rw [ptP_len2, ← len3]; exact c
          obtain ⟨y2, z1, z2⟩ := segA j _ (List.getElem?_eq_getElem hlt)
          rw [Nat.zero_add, ee] at z1
          cases z1
          exact ⟨_, z2⟩
        · have hlt : j - as.length < ((ptB i 0 0 pr.2).map rawP ++ [(⟨i, none, none, []⟩ : Pt)]).length := by rw [List.length_append, List.length_map, ptB_len]; simp; omega
          obtain ⟨y2, z1, z2⟩ := segB (j - as.length) _ (List.getElem?_eq_getElem hlt)
          rw [show as.length + (j - as.length) = j by omega, ee] at z1
          cases z1
          exact ⟨_, z2⟩
    refine ⟨_, rfl, x, dx, _, rfl, hx7, rfl, _, rfl, _, rfl, x, dx, lp, le, q, i, as.length, as.length + bdS pr.2, pr.2, _, _, rfl, Lall.sub (Nat.zero_le _) (by omega), fs7, segB.left, by omega, fun H8 sm8 seg8 => ?_⟩
    have L8 := Lall.sub (lo' := as.length) (n' := bdS pr.2) (Nat.zero_le _) (by omega)
    have t8 := L8.tups sm8
    have hx8 := sm8.sm _ _ hx7 L8.nota
    have hl8 := sm8.sm _ _ hl7 L8.notlp
    have nle : ¬ SegS (as ++ (as1 ++ [(o, e)])) as.length (bdS pr.2) le := by
      rintro ⟨j, y, hj, ee, z⟩
      obtain ⟨p, _, _, f1, _, f3⟩ := L8.kd j y hj ee
      rcases z with z | z
      · rw [← z, hle7] at f1
        cases f1
      · exact (fr7 y (List.mem_of_getElem? ee)).2.2.2 z.symm
    have he8 := sm8.sm _ _ hle7 nle
    have blen : (begs 0 (G.procs.take i)).length ≤ 2 := by rw [begs_len, List.length_take]; omega
    refine ⟨_, rfl, x, _, dx, _, _, rfl, hx8, T.c_Points, T.n_Points_entries, rfl, .inl ⟨rfl, _, SqL.of he8⟩, _, rfl, le, _, _, rfl, rfl, he8, smallL (by rw [List.length_map]; omega), ?_⟩
    have s8 : Same H0 H8 := same_b s7 sm8.sm fun c hc => by
      obtain ⟨j, y, hj, ee, z⟩ := (show SegS _ _ _ _ from hc)
      have f := fr7 y (List.mem_of_getElem? ee)
      rcases z with z | z
      · rw [z]; exact f.1
      · rw [z]; exact f.2.1
    have segF : Seg K H8 (as ++ (as1 ++ [(o, e)])) 0 (ptP 0 0 (G.procs.take (i + 1))) := by
      rw [etk, ptP_snoc]
      have el : (G.procs.take i).length = i := by rw [List.length_take]; omega
      rw [el, Nat.zero_add, Nat.zero_add, ← len3]
      refine Seg.app ?_ (Seg.app ?_ ?_)
      · have z := Lall.keep (i := 0) (j2 := as.length) (m := bdS pr.2) segA (by rw [ptP_len2, ← len3]; omega) (by rw [Nat.zero_add]; exact sm8.sm) t8 (by omega) (.inl (by rw [ptP_len2, ← len3]; omega))
        exact z
      · rw [ptP_len2, ← len3, Nat.zero_add]
        exact seg8
      · rw [ptP_len2, ← len3, Nat.zero_add, ptB_len]
        have segR := segB.right
        rw [List.length_map, ptB_len] at segR
        have z := Lall.keep (i := as.length + bdS pr.2) (j2 := as.length) (m := bdS pr.2) (by rw [Nat.zero_add]; exact segR) (by simp) (by rw [Nat.zero_add]; exact sm8.sm) t8 (by omega) (.inr (by omega))
        rw [Nat.zero_add] at z
        exact z
    have up8 : ∀ c u, H8 c = some u → c ≠ le → (upd H8 le (.lst ((begs 0 (G.procs.take i)).map (fun n : Nat => V.int (n : Int)) ++ [V.int (as.length : Nat)]))) c = some u := fun c u z n => by rw [upd_ne n]; exact z
    refine ⟨as ++ (as1 ++ [(o, e)]), _, _, _, _, _, _, rfl, s8.mut le0, up8 _ _ hx8 (Ne.symm nlex), up8 _ _ hl8 (Ne.symm nlel), ?_, ?_, by rw [lall, psz1, len3]; omega, nd17, nd27, fr7⟩
    · rw [upd_same, etk, begs_snoc, Nat.zero_add, ← len3, List.map_append]
      rfl
    · intro j p ee
      obtain ⟨y, z1, z2⟩ := segF j p ee
      have f := fr7 y (List.mem_of_getElem? z1)
      refine ⟨y, z1, z2.keep (tups_lst he8) (fun u z => up8 _ _ z fun z3 => ?_) (fun u z => up8 _ _ z f.2.2.2)⟩
      rw [z3, he8] at z
      obtain ⟨_, _, z4, _⟩ := z2
      rw [z3, he8] at z4
      cases z4
  · rintro σ H3 ⟨as, x2, x3, x4, x5, x6, x7, rfl, s3, hx3, hl3, he3, seg3, len3, nd1, nd2, fr3⟩
    rw [hxl, List.take_length] at he3 seg3 len3
    refine fin H3 s3 ⟨dx, lp, le, as, hx3, hl3, he3, ?_, seg3⟩
    rw [len3, ← ptP_len2 0 0]
    rfl
/-! ### all levels -/
theorem all_points (T : Env K mg) : Mak P w K mg base 7 "Points" (He.ga K "Points") (sp_points K) [] := by
  obtain ⟨fd, F⟩ := T.F_Points_add_body
  obtain ⟨fd2, F2⟩ := T.F_Points_link
  have m0 : Met P w K mg base 0 (He.ga K "Points") "add_body" (sp_addb K 0) [] := Met_none (ps := ["self", "procedure", "body"]) F T.c_Points T.m_Points_add_body (F.bindsN fun _ _ _ _ _ _ us hl => match us, hl with | [_, _, _], _ => rfl) addb_no
  have m2 : Met P w K mg base 2 (He.ga K "Points") "add_body" (sp_addb K 0) [] := let ⟨f, fd, ps, ds, c, me, fo, b, v⟩ := m0.ex; ⟨f, fd, ps, ds, c, me, fo.mono (Nat.zero_le _), b, v⟩
  have l0 : Met P w K mg base 0 (He.ga K "Points") "link" (sp_link K 0) [] := Met_none (ps := ["self", "firsts", "behind"]) F2 T.c_Points T.m_Points_link (F2.bindsN fun _ _ _ _ _ _ us hl => match us, hl with | [_, _, _], _ => rfl) link_no
  have cp := ok_point (P := P) (w := w) (base := base) T
  have cb := ok_bods (P := P) (w := w) (base := base) T
  exact ok_points T cp (ok_addb T (by decide) cp cb (ok_addb T (by decide) cp cb (ok_addb T (by decide) cp cb (ok_addb T (by decide) cp cb m2)))) (ok_link T (ok_link T (ok_link T (ok_link T l0))))
end
end Pr
/-! The law's own step from a situation. -/
namespace Pr
open PySem PySem.Spec PyProof.Rows L2
open C8 (Cal Met Mak pe_c pe_mk pe_mt pe_mt0)
theorem at_ent {ns : List Nat} {i : Nat} (h : i < ns.length) : atI (ns.map fun n : Nat => V.int (n : Int)) (i : Int) = some (.int (ns.getD i 0 : Nat)) := atI_nat (by rw [List.getElem?_map, List.getElem?_eq_getElem h]; simp [h])
abbrev Goal := Nat × List Bool × List Bool
def GoalV (H : Hp) (x : Goal) (v : V) : Prop := ∃ t vl : Addr, v = .ref t ∧ H t = some (.tup [.int x.1, .ref vl]) ∧ ValsAt H vl x.2.1 x.2.2
theorem GoalV.same {H H' : Hp} {x : Goal} {v : V} (h : GoalV H x v) (e : Same H H') : GoalV H' x v := by
  obtain ⟨t, vl, rfl, h1, h2⟩ := h
  exact ⟨t, vl, rfl, e _ _ h1, h2.same e⟩
def GoalsAt (H : Hp) (a : Addr) (gs : List Goal) : Prop := ∃ ys : List V, H a = some (.lst ys) ∧ ys.length = gs.length ∧ ∀ (j : Nat) y, ys[j]? = some y → ∃ x, gs[j]? = some x ∧ GoalV H x y
theorem GoalsAt.same {H H' : Hp} {a : Addr} {gs : List Goal} (h : GoalsAt H a gs) (e : Same H H') : GoalsAt H' a gs := by
  obtain ⟨ys, h1, h2, h3⟩ := h
  exact ⟨ys, e _ _ h1, h2, fun j y hy => let ⟨x, a, b⟩ := h3 j y hy; ⟨x, a, b.same e⟩⟩
theorem GoalsAt.one {H : Hp} {a : Addr} {x : Goal} {v : V} (h : H a = some (.lst [v])) (g : GoalV H x v) : GoalsAt H a [x] := ⟨[v], h, rfl, fun j y hy => by
  cases j with
  | zero => simp at hy; subst hy; exact ⟨x, rfl, g⟩
  | succ j => simp at hy⟩
theorem GoalsAt.two {H : Hp} {a : Addr} {x1 x2 : Goal} {v1 v2 : V} (h : H a = some (.lst [v1, v2])) (g1 : GoalV H x1 v1) (g2 : GoalV H x2 v2) : GoalsAt H a [x1, x2] := ⟨[v1, v2], h, rfl, fun j y hy => by
  match j with
  | 0 => simp at hy; subst hy; exact ⟨x1, rfl, g1⟩
  | 1 => simp at hy; subst hy; exact ⟨x2, rfl, g2⟩
  | j + 2 => simp at hy⟩
/-- the goals behind the first k tests -/
def gsTo (p : Pt) (g l : List Bool) (s : Sm) (k : Nat) : List Goal := if s.tagI < k then goals p g l s else [(p.follow, g, l)]
theorem gsTo_other {p : Pt} {g l : List Bool} {s : Sm} {k : Nat} (h : s.tagI ≠ k) : gsTo p g l s (k + 1) = gsTo p g l s k := by
  unfold gsTo
  by_cases c : s.tagI < k
  · rw [if_pos c, if_pos (by omega)]
  · rw [if_neg c, if_neg (by omega)]
theorem gsTo_this {p : Pt} {g l : List Bool} {s : Sm} {k : Nat} (h : s.tagI = k) : gsTo p g l s (k + 1) = goals p g l s := by
  unfold gsTo
  rw [if_pos (by omega)]
theorem gsTo_zero {p : Pt} {g l : List Bool} {s : Sm} : gsTo p g l s 0 = [(p.follow, g, l)] := by
  unfold gsTo
  rw [if_neg (by omega)]
section
variable {P : Program} {w : World} {K : PySem.W.Frag} {mg : Str → Option Value} {base : Heap}
def sp_after : Sp := fun vs H Q _ => ∃ (a t : Addr) (v : V) (G : Prog) (s : Sit), vs = [.ref a, .ref t, v] ∧ LawProg H a G ∧ Told H t G ∧ G.Ok ∧ Rp H (sitD s) v ∧ SitOk G s ∧ s.2.length ≤ 1000 ∧
  ∀ (r : Addr) (xs : List V) (H' : Hp), Same H H' → H r = none → H' r = some (.lst xs) → RpAll H' ((sucs G s).map sitD) xs → Q (.ref r) H'
abbrev n__law_after : List Str := ["_law_program_here", "_law_told", "_law_situation", "_law_frame_here", "_law_rest", "_law_point", "_law_values", "_law_form", "_law_goals", "_law_value_here", "_law_goal"]
theorem sc__law_after : FnScope n__law_after ["_law_program_here", "_law_told", "_law_situation"] (defScope s__law_after) := ⟨rfl, rfl, rfl, by decide +kernel, rfl, by decide +kernel, by decide +kernel⟩
theorem ok_after (T : Env K mg) (c__law_frame : Cal P w K mg base 1 "_law_frame" sp_frame []) (c__law_with : Cal P w K mg base 1 "_law_with" sp_with []) (c__law_value : Cal P w K mg base 5 "_law_value" (sp_value 4) []) : Cal P w K mg base 6 "_law_after" sp_after [] := by
  obtain ⟨fd, F⟩ := T.F__law_after
  refine cal_by F T.g__law_after (F.bindsN fun _ _ _ _ _ _ us hl => match us, hl with | [_, _, _], _ => rfl) sc__law_after (fun vs H Q E h => ?_) (fun cdv A outer s H vs Q E hr h => ?_)
  · obtain ⟨a, t, v, G, s, rfl, _⟩ := h
    rfl
  obtain ⟨a, t, v, G, ⟨g, fs⟩, rfl, hG, hT, ok, hv, so, h1000, k⟩ := h
  obtain ⟨sa, _, rfl, hsa, gv, _, rfl, hgv, fsv, _, rfl, hfs, rfl⟩ := hv
  obtain ⟨ga, rfl, hga⟩ := Rp.boolsT.mp hgv
  obtain ⟨fa, fxs, rfl, hfa, hfx⟩ := hfs
  have hfl : fxs.length = fs.length := by rw [hfx.len, List.length_map]
  refine ⟨_, pss_cons (ps_if (pt_cmpR op_eq (pe_callB call_len_seq (by rfl) T.f_len (by decide +kernel) (pa_cons (pe_ix ix_tup (pv 2) pe_int (fun _ _ => rfl)) pa_nil)) pe_int (nomark _))
        (pss_one (ps_ret (pe_lst pa_nil)))
        pss_nil)
      (pss_cons (ps_set (i := 3) sc__law_after.nd rfl (Or.inl rfl) (pe_ix ix_tup (pe_ix ix_tup (pv 2) pe_int (fun _ _ => rfl)) pe_int (fun _ _ => rfl)))
      (pss_cons (ps_set (i := 4) sc__law_after.nd rfl (Or.inr rfl) (pe_slice sl_tupA (pe_ix ix_tup (pv 2) pe_int (fun _ _ => rfl)) (po_some pe_int) po_none))
      (pss_cons (ps_set (i := 5) sc__law_after.nd rfl (Or.inr rfl) (pe_dget (hu_of hr) (pe_ix ix_list (pv 1) pe_int (fun _ _ => rfl)) (pe_ix ix_tup (pv 3) pe_int (fun _ _ => rfl)) (fun _ _ => rfl)))
      (pss_cons (ps_set (i := 6) sc__law_after.nd rfl (Or.inr rfl) (pe_lst (pa_cons (pe_ix ix_tup (pv 2) pe_int (fun _ _ => rfl)) (pa_cons (pe_ix ix_tup (pv 3) pe_int (fun _ _ => rfl)) pa_nil))))
      (pss_cons (ps_if (PW.pt (pw_or (pt_cmpR op_isN (pe_ix ix_list (pv 5) pe_int (fun _ _ => rfl)) pe_non (nomark _)) (pw_or1 (pt_cmpR op_eq (pe_ix ix_tup (pe_ix ix_list (pv 5) pe_int (fun _ _ => rfl)) pe_int (fun _ _ => rfl)) pe_str (nomark _)))))
        (pss_one (ps_ret (pe_lst (pa_cons (pe_tup (pa_cons (pe_ix ix_tup (pv 2) pe_int (fun _ _ => rfl)) (pa_cons (pv 4) pa_nil))) pa_nil))))
        pss_nil)
      (pss_cons (ps_set (i := 7) sc__law_after.nd rfl (Or.inl rfl) (pe_ix ix_tup (pe_ix ix_list (pv 5) pe_int (fun _ _ => rfl)) pe_int (fun _ _ => rfl)))
      (pss_cons (ps_if (pt_cmpR op_eq (pv 7) pe_str (nomark _))
        (pss_one (ps_ret (pe_lst (pa_cons (pe_tup (pa_cons (pe_ix ix_tup (pv 2) pe_int (fun _ _ => rfl)) (pa_cons (pe_op op_catA (pe_tup (pa_cons (pe_c c__law_frame hr (by omega) rfl (pa_cons (pv 0) (pa_cons (pv 1) (pa_cons (pe_ix ix_tup (pe_ix ix_list (pv 5) pe_int (fun _ _ => rfl)) pe_int (fun _ _ => rfl)) pa_nil)))) (pa_cons (pe_tup (pa_cons (pe_ix ix_list (pv 5) pe_int (fun _ _ => rfl)) (pa_cons (pe_ix ix_tup (pv 3) pe_int (fun _ _ => rfl)) pa_nil))) pa_nil))) (pv 4)) pa_nil))) pa_nil))))
        pss_nil)
      (pss_cons (ps_set (i := 8) sc__law_after.nd rfl (Or.inl rfl) (pe_lst (pa_cons (pe_tup (pa_cons (pe_ix ix_list (pv 5) pe_int (fun _ _ => rfl)) (pa_cons (pv 6) pa_nil))) pa_nil)))
      (C8.pss_cut (ps_if (pt_cmpR op_eq (pv 7) pe_str (nomark _))
        (pss_one (ps_set (i := 8) sc__law_after.nd rfl (Or.inl rfl) (pe_lst (pa_cons (pe_tup (pa_cons (pe_ix ix_list (pv 5) pe_int (fun _ _ => rfl)) (pa_cons (pe_c c__law_with hr (by omega) rfl (pa_cons (pv 6) (pa_cons (pe_ix ix_tup (pe_ix ix_list (pv 5) pe_int (fun _ _ => rfl)) pe_int (fun _ _ => rfl)) (pa_cons (pe_c c__law_value hr (by omega) rfl (pa_cons (pe_ix ix_tup (pe_ix ix_list (pv 5) pe_int (fun _ _ => rfl)) pe_int (fun _ _ => rfl)) (pa_cons (pv 6) pa_nil))) pa_nil)))) pa_nil))) pa_nil))))
        pss_nil)
      (C8.pss_cut (ps_if (pt_cmpR op_eq (pv 7) pe_str (nomark _))
        (pss_one (ps_setLc (i := 8) (own := [("_law_value_here", 9)]) (g := gName 9) (by rfl) sc__law_after.nd rfl rfl (sw_true rfl rfl rfl (by decide +kernel)) (pi_list (pe_lst (pa_cons pe_bl (pa_cons pe_bl pa_nil)))) (blkOk_by (own := [("_law_value_here", 9)]) (N := n__law_after) (sc := defScope s__law_after) (by decide +kernel)) (fun _ _ _ _ _ => (pg_name (i := 9) sc__law_after.nd rfl (Or.inl rfl))) (fun _ _ _ _ _ => pts_nil) (fun _ _ _ _ _ => (pe_tup (pa_cons (pe_ix (r := rIxL K) ix_list (pv 5) pe_int (fun _ _ => rfl)) (pa_cons (pe_c c__law_with hr (by omega) rfl (pa_cons (pv 6) (pa_cons (pe_ix (r := rIxT K) ix_tup (pe_ix (r := rIxL K) ix_list (pv 5) pe_int (fun _ _ => rfl)) pe_int (fun _ _ => rfl)) (pa_cons (pv 9) pa_nil)))) pa_nil))))))
        pss_nil)
      (C8.pss_cut (ps_if (pt_cmpR op_eq (pv 7) pe_str (nomark _))
        (pss_one (ps_set (i := 8) sc__law_after.nd rfl (Or.inl rfl) (pe_lst (pa_cons (pe_tup (pa_cons (pe_ix ix_list (pe_ix ix_list (pv 5) pe_int (fun _ _ => rfl)) (pe_op op_sub pe_int (pe_callTy call_int1 (by rfl) T.f_int (by decide +kernel) (pa_cons (pe_c c__law_value hr (by omega) rfl (pa_cons (pe_ix ix_tup (pe_ix ix_list (pv 5) pe_int (fun _ _ => rfl)) pe_int (fun _ _ => rfl)) (pa_cons (pv 6) pa_nil))) pa_nil))) (fun _ _ => rfl)) (pa_cons (pv 6) pa_nil))) pa_nil))))
        pss_nil)
      (C8.pss_cut (ps_if (pt_cmpR op_eq (pv 7) pe_str (nomark _))
        (pss_one (ps_set (i := 8) sc__law_after.nd rfl (Or.inl rfl) (pe_lst (pa_cons (pe_tup (pa_cons (pe_ix ix_list (pe_ix ix_list (pv 5) pe_int (fun _ _ => rfl)) pe_int (fun _ _ => rfl)) (pa_cons (pv 6) pa_nil))) (pa_cons (pe_tup (pa_cons (pe_ix ix_list (pe_ix ix_list (pv 5) pe_int (fun _ _ => rfl)) pe_int (fun _ _ => rfl)) (pa_cons (pv 6) pa_nil))) pa_nil)))))
        pss_nil)
      (C8.pss_cut (ps_if (PW.pt (pw_and (pt_cmpR op_eq (pv 7) pe_str (nomark _)) (pw_and1 (pt_val (pe_c c__law_value hr (by omega) rfl (pa_cons (pe_ix ix_tup (pe_ix ix_list (pv 5) pe_int (fun _ _ => rfl)) pe_int (fun _ _ => rfl)) (pa_cons (pv 6) pa_nil)))))))
        (pss_one (ps_set (i := 8) sc__law_after.nd rfl (Or.inl rfl) (pe_lst (pa_cons (pe_tup (pa_cons (pe_ix ix_list (pe_ix ix_list (pv 5) pe_int (fun _ _ => rfl)) pe_int (fun _ _ => rfl)) (pa_cons (pv 6) pa_nil))) pa_nil))))
        pss_nil)
      (C8.pss_cut (ps_if (pt_cmpR op_eq (pv 7) pe_str (nomark _))
        (pss_one (ps_set (i := 8) sc__law_after.nd rfl (Or.inl rfl) (pe_lst (pa_cons (pe_tup (pa_cons (pe_ix ix_list (pe_ix ix_list (pv 5) pe_int (fun _ _ => rfl)) pe_int (fun _ _ => rfl)) (pa_cons (pv 6) pa_nil))) (pa_cons (pe_tup (pa_cons (pe_ix ix_list (pv 5) pe_int (fun _ _ => rfl)) (pa_cons (pv 6) pa_nil))) pa_nil)))))
        pss_nil)
      (pss_one (ps_ret (pe_lc (own := [("_law_goal", 10)]) (g := gName 10) (by rfl) sc__law_after.nd (pi_list (pv 8)) (blkOk_by (own := [("_law_goal", 10)]) (N := n__law_after) (sc := defScope s__law_after) (by decide +kernel)) (fun _ _ _ _ _ => (pg_name (i := 10) sc__law_after.nd rfl (Or.inl rfl))) (fun _ _ _ _ _ => pts_nil) (fun _ _ _ _ _ => (pe_tup (pa_cons (pe_ix (r := rIxL K) ix_list (pe_ix (r := rIxT K) ix_tup (pv 10) pe_int (fun _ _ => rfl)) pe_int (fun _ _ => rfl)) (pa_cons (pe_op (r := rCatA K) op_catA (pe_tup (pa_cons (pe_tup (pa_cons (pe_ix (r := rIxT K) ix_tup (pv 10) pe_int (fun _ _ => rfl)) (pa_cons (pe_ix (r := rIxL K) ix_list (pe_ix (r := rIxT K) ix_tup (pv 10) pe_int (fun _ _ => rfl)) pe_int (fun _ _ => rfl)) pa_nil))) pa_nil)) (pv 4)) pa_nil))))))))))))))))))))), ?_⟩
  refine ⟨_, rfl, sa, _, _, _, rfl, rfl, SqT.of hsa, rfl, fa, fxs, rfl, .inr (SqT.of hfa), rfl, _, rfl, ?_⟩
  cases fs with
  | nil =>
    have e : fxs = [] := List.eq_nil_of_length_eq_zero hfl
    subst e
    refine if_t (by decide +kernel) ⟨Nat.zero_le _, fun r hr2 => ?_⟩
    exact k r [] _ (same_upd hr2) hr2 upd_same rfl
  | cons f r =>
  obtain ⟨f1v, rvs, rfl, hf1, hrvs⟩ := hfx
  refine if_f (by rw [hfl]; rfl) ?_
  obtain ⟨f1, _, rfl, hf1a, _, _, rfl, rfl, l1v, _, rfl, hl1, rfl⟩ := hf1
  obtain ⟨l1, rfl, hl1a⟩ := Rp.boolsT.mp hl1
  obtain ⟨p, hp, hlc⟩ := so.f f (List.mem_cons_self ..)
  have po := ok.pt hp
  obtain ⟨td, tb, kvs, ht, htd, htb, hpts⟩ := id hT
  obtain ⟨pv0, hpv, pa, en, sv, fv, rfl, _, _, hpa, hen, hsv, hfv⟩ := hpts f.1 p hp
  refine ⟨_, rfl, sa, _, _, _, rfl, rfl, SqT.of hsa, rfl, fa, _, _, _, rfl, rfl, SqT.of hfa, at0, ?_⟩
  refine ⟨_, rfl, sa, _, _, _, rfl, rfl, SqT.of hsa, rfl, 1, rfl, fa, _, rfl, SqT.of hfa, (fun z => absurd z (cut1_not _ _)), fun _ ra hra => ?_⟩
  have s1 := same_upd (o := .tup (cutV (V.ref f1 :: rvs) (some 1) none)) hra
  have hra1 : (upd H ra (.tup (cutV (V.ref f1 :: rvs) (some 1) none))) ra = some (.tup rvs) := by rw [upd_same, cut1]
  generalize upd H ra (.tup (cutV (V.ref f1 :: rvs) (some 1) none)) = H1 at *
  refine ⟨_, rfl, t, _, _, _, rfl, rfl, SqL.of (s1 _ _ ht), rfl, _, rfl, f1, _, _, _, rfl, rfl, SqT.of (s1 _ _ hf1a), rfl, td, _, rfl, (by rw [← hpv]; exact DGet.k (k := Sum.inl ((f.1 : Nat) : Int)) (s1 _ _ htd)), ?_⟩
  refine ⟨_, rfl, sa, _, _, _, rfl, rfl, SqT.of (s1 _ _ hsa), rfl, _, rfl, f1, _, _, _, rfl, rfl, SqT.of (s1 _ _ hf1a), rfl, (by show 2 ≤ sizeLine; decide), fun va hva0 => ?_⟩
  have s2 := s1.new (o := .lst [V.ref ga, V.ref l1]) hva0
  have hva : ValsAt (upd H1 va (.lst [V.ref ga, V.ref l1])) va g f.2 := ⟨ga, l1, upd_same, s2 _ _ hga, s2 _ _ hl1a⟩
  have hra2 := same_upd (o := .lst [V.ref ga, V.ref l1]) hva0 _ _ hra1
  have rrest : RpAll (upd H1 va (.lst [V.ref ga, V.ref l1])) (r.map frD) rvs := RpAll.at s2.tups _ _ hrvs
  generalize upd H1 va (.lst [V.ref ga, V.ref l1]) = H2 at *
  have rl : rvs.length ≤ 1000 := by
    simp only [List.length_cons] at hfl h1000
    omega
  -- a situation with the frames ahead of the rest
  have sit1 : ∀ {H3 : Hp} {gx ta : Addr} {g' : List Bool}, Rp H3 (boolsD g') (.ref gx) → Rp H3 (.tuple (r.map frD)) (.ref ta) → ∀ q, H3 q = none → Rp (upd H3 q (.tup [.ref gx, .ref ta])) (sitD (g', r)) (.ref q) := fun h1 h2 q hq => Rp.new hq (.cons h1 (.one h2))
  have esucs : sucs G (g, f :: r) = (aftP G p g f.2).map fun x => (x.1, x.2 ++ r) := by
    show (aft G g f).map _ = _
    unfold aft
    rw [hp]
  rw [esucs] at k
  have leave : aftP G p g f.2 = [(g, [])] → ∀ {X : Prop}, True := fun _ _ => trivial
  have out : aftP G p g f.2 = [(g, [])] → ∀ q, H2 q = none → ([V.ref q] : List V).length ≤ sizeLine ∧ ∀ rr, (upd H2 q (.tup [.ref ga, .ref ra])) rr = none → Q (.ref rr) (upd (upd H2 q (.tup [.ref ga, .ref ra])) rr (.lst [.ref q])) := by
    intro e q hq
    refine ⟨(by show 1 ≤ sizeLine; decide), fun rr hrr => ?_⟩
    refine k rr _ _ ((s2.new hq).new hrr) ((s2.new hq).free hrr) upd_same ?_
    rw [e]
    refine .one (Rp.at (same_upd hrr).tups _ _ (Rp.new hq (.cons ?_ (.one ?_))))
    · exact Rp.boolsT.mpr ⟨ga, rfl, s2 _ _ hga⟩
    · exact ⟨ra, rvs, rfl, hra2, rrest⟩
  have hpa2 := s2 _ _ hpa
  cases hs : p.stm with
  | none =>
    rw [hs] at hsv
    subst hsv
    refine ⟨_, rfl, pa, _, _, _, rfl, rfl, SqL.of hpa2, rfl, rfl, _, rfl, if_t rfl (iteT ?_)⟩
    refine ⟨_, rfl, sa, _, _, _, rfl, rfl, SqT.of (s2 _ _ hsa), rfl, _, rfl, (by show 2 ≤ sizeLine; decide), fun q hq => ?_⟩
    exact out (by unfold aftP; rw [hs]) q hq
  | some st =>
  rw [hs] at hsv
  obtain ⟨rest, hrest⟩ := st.d_tag
  have hsv0 : Rp H st.d sv := hsv
  have hst : ∃ (su : Addr) (vs : List V), sv = .ref su ∧ H su = some (.tup (.str st.tag :: vs)) ∧ RpAll H rest vs := by
    rw [hrest] at hsv0
    obtain ⟨u, vs, e, hu, v0, r0, e2, e3, e4⟩ := hsv0
    exact ⟨u, r0, e, by rw [hu, e2, (show v0 = V.str st.tag from e3)], e4⟩
  obtain ⟨su, vs, rfl, hsu, hvs⟩ := hst
  obtain ⟨sok, sdp, fo, hfo, hfop, hent, hlen⟩ := po.stm st hs
  rw [hfo] at hfv
  subst hfv
  have efo : p.follow = fo := by simp [Pt.follow, hfo]
  have hgc : g.length = G.gc := so.g
  have hsu2 := s2 _ _ hsu
  refine ⟨_, rfl, pa, _, _, _, rfl, rfl, SqL.of hpa2, rfl, rfl, _, rfl, if_f rfl ?_⟩
  refine ⟨_, rfl, pa, _, _, _, rfl, rfl, SqL.of hpa2, rfl, su, _, _, _, rfl, rfl, SqT.of hsu2, at0, rfl, _, rfl, ?_⟩
  by_cases isret : st = .ret
  · subst isret
    refine if_t (by decide +kernel) ?_
    refine ⟨_, rfl, sa, _, _, _, rfl, rfl, SqT.of (s2 _ _ hsa), rfl, _, rfl, (by show 2 ≤ sizeLine; decide), fun q hq => ?_⟩
    exact out (by unfold aftP; rw [hs]) q hq
  have nret : decide (V.str st.tag = V.str "return") = false := by
    rw [dtag_return]
    cases st <;> first | exact absurd rfl isret | rfl
  refine if_f nret ?_
  refine ⟨_, rfl, pa, _, _, _, rfl, rfl, SqL.of hpa2, rfl, su, _, _, _, rfl, rfl, SqT.of hsu2, at0, ?_⟩
  refine ⟨_, rfl, rfl, _, rfl, ?_⟩
  by_cases iscall : ∃ q, st = .call q
  · obtain ⟨q, rfl⟩ := iscall
    obtain ⟨_, _, e, hu, _, _, rfl, rfl, _, _, rfl, rfl, rfl⟩ := hsv
    cases e
    refine if_t (dtag_call _) ?_
    have hqn : q < G.procs.length := sok
    rw [hsu] at hu
    cases hu
    refine ⟨_, rfl, sa, _, _, _, rfl, rfl, SqT.of (s2 _ _ hsa), rfl, _, rfl, _, rfl, _, rfl, pa, _, _, _, rfl, rfl, SqL.of hpa2, rfl, su, _, _, _, rfl, rfl, SqT.of hsu2, rfl, a, t, G, q, rfl, hG.same s2, hT.same s2, ok, hqn, fun ev H3 s3 rev => ?_⟩
    have s23 := s2.trans s3
    refine ⟨_, rfl, pa, _, _, _, rfl, rfl, SqL.of (s3 _ _ hpa2), rfl, _, rfl, f1, _, _, _, rfl, rfl, SqT.of (s23 _ _ hf1a), rfl, (by show 2 ≤ sizeLine; decide), fun q1 hq1 => ⟨(by show 2 ≤ sizeLine; decide), fun q2 hq2 => ?_⟩⟩
    have s4 := (s23.new (o := .tup [V.int fo, V.ref l1]) hq1).new (o := .tup [ev, V.ref q1]) hq2
    have s34 := (s3.new (o := .tup [V.int fo, V.ref l1]) hq1).new (o := .tup [ev, V.ref q1]) hq2
    have e4 := (same_upd (o := .tup [V.int fo, V.ref l1]) hq1).new (o := .tup [ev, V.ref q1]) hq2
    have hq14 : (upd (upd H3 q1 (.tup [V.int fo, V.ref l1])) q2 (.tup [ev, V.ref q1])) q1 = some (.tup [V.int fo, V.ref l1]) := same_upd hq2 _ _ upd_same
    have hq24 : (upd (upd H3 q1 (.tup [V.int fo, V.ref l1])) q2 (.tup [ev, V.ref q1])) q2 = some (.tup [ev, V.ref q1]) := upd_same
    generalize upd (upd H3 q1 (.tup [V.int fo, V.ref l1])) q2 (.tup [ev, V.ref q1]) = H4 at *
    have rr4 := RpAll.at s34.tups _ _ rrest
    have two : RpAll H4 ([frD (G.entry q), frD (fo, f.2)]) [ev, V.ref q1] := .cons (Rp.at e4.tups _ _ rev) (.one ⟨q1, _, rfl, hq14, .cons rfl (.one (Rp.boolsT.mpr ⟨l1, rfl, s4 _ _ hl1a⟩))⟩)
    have all4 : RpAll H4 (([G.entry q, (fo, f.2)] ++ r).map frD) ([ev, V.ref q1] ++ rvs) := by
      rw [List.map_append]
      exact two.app rr4
    have fin : ∀ (fa' : Addr) (H5 : Hp), Same H4 H5 → H5 fa' = some (.tup ([ev, V.ref q1] ++ rvs)) → ([V.ref ga, V.ref fa'] : List V).length ≤ sizeLine ∧ ∀ q5, H5 q5 = none → ([V.ref q5] : List V).length ≤ sizeLine ∧ ∀ q6, (upd H5 q5 (.tup [V.ref ga, V.ref fa'])) q6 = none → Q (.ref q6) (upd (upd H5 q5 (.tup [V.ref ga, V.ref fa'])) q6 (.lst [.ref q5])) := by
      intro fa' H5 s5 h5
      refine ⟨(by show 2 ≤ sizeLine; decide), fun q5 hq5 => ⟨(by show 1 ≤ sizeLine; decide), fun q6 hq6 => ?_⟩⟩
      refine k q6 _ _ (((s4.trans s5).new hq5).new hq6) (((s4.trans s5).new hq5).free hq6) upd_same ?_
      have e : aftP G p g f.2 = [(g, [G.entry q, (p.follow, f.2)])] := by unfold aftP; rw [hs]
      rw [e, efo]
      refine .one (Rp.at (same_upd hq6).tups _ _ (Rp.new hq5 (.cons ?_ (.one ?_))))
      · exact Rp.boolsT.mpr ⟨ga, rfl, s5 _ _ (s4 _ _ hga)⟩
      · exact ⟨fa', _, rfl, h5, RpAll.at s5.tups _ _ all4⟩
    refine ⟨_, rfl, q2, ra, _, _, rfl, rfl, SqT.of hq24, SqT.of (s34 _ _ hra2), small (by simp only [List.length_cons, List.length_nil]; omega), (fun z => by cases z), (fun _ z => ?_), fun _ _ q3 hq3 => ?_⟩
    · exact fin q2 H4 (Same.refl H4) (by rw [hq24, z, List.append_nil])
    · exact fin q3 _ (same_upd hq3) upd_same
  have ncall : decide (V.str st.tag = V.str "call") = false := by
    rw [dtag_call]
    cases st <;> first | exact absurd ⟨_, rfl⟩ iscall | rfl
  refine if_f ncall ?_
  have hpa' : ∀ {H3 : Hp}, Same H2 H3 → SqL K H3 pa [V.int p.proc, V.ref su, V.int fo, V.ref en] := fun e => SqL.of (e _ _ hpa2)
  have hsu' : ∀ {H3 : Hp}, Same H2 H3 → SqT K H3 su (V.str st.tag :: vs) := fun e => SqT.of (e _ _ hsu2)
  have hen2 := s2 _ _ hen
  have two : (2 : Nat) ≤ sizeLine := by decide
  have one : (1 : Nat) ≤ sizeLine := by decide
  -- the first goals
  refine ⟨_, rfl, pa, _, _, _, rfl, rfl, hpa' (Same.refl _), rfl, _, rfl, two, fun q1 hq1 => ⟨one, fun gl0 hgl0 => ?_⟩⟩
  have gv0 : ∀ {H3 : Hp} {q : Addr} {n : Nat} {vl : Addr} {g' l' : List Bool}, H3 q = some (.tup [.int n, .ref vl]) → ValsAt H3 vl g' l' → GoalV H3 (n, g', l') (.ref q) := fun h1 h2 => ⟨_, _, rfl, h1, h2⟩
  have m0 : ∃ gl, Same H2 (upd (upd H2 q1 (.tup [.int fo, .ref va])) gl0 (.lst [.ref q1])) ∧ GoalsAt (upd (upd H2 q1 (.tup [.int fo, .ref va])) gl0 (.lst [.ref q1])) gl (gsTo p g f.2 st 0) ∧
      [some (V.ref a), some (V.ref t), some (V.ref sa), some (V.ref f1), some (V.ref ra), some (V.ref pa), some (V.ref va), some (V.str st.tag), some (V.ref gl0), none, none] = [some (V.ref a), some (V.ref t), some (V.ref sa), some (V.ref f1), some (V.ref ra), some (V.ref pa), some (V.ref va), some (V.str st.tag), some (V.ref gl), none, none] := by
    refine ⟨gl0, (same_upd hq1).new hgl0, ?_, rfl⟩
    rw [gsTo_zero, efo]
    exact GoalsAt.one upd_same (gv0 (same_upd hgl0 _ _ upd_same) (hva.same ((same_upd hq1).new hgl0)))
  -- one test behind another
  have ok1 : ∀ {e : Ex}, e.ok G.gc (G.lc p.proc) → e.ok g.length f.2.length := fun h => by rw [hgc, hlc]; exact h
  have okv : ∀ {x : Vr}, x.ok G.gc (G.lc p.proc) → x.ok g.length f.2.length := fun h => by rw [hgc, hlc]; exact h
  have fin3 : ∀ (gl : Addr) (gs : List Goal) (H' H3 : Hp), Same H2 H' → True := fun _ _ _ _ _ => trivial
  -- set
  refine ⟨fun σ' H' => ∃ gl, Same H2 H' ∧ GoalsAt H' gl (gsTo p g f.2 st 1) ∧ σ' = [some (V.ref a), some (V.ref t), some (V.ref sa), some (V.ref f1), some (V.ref ra), some (V.ref pa), some (V.ref va), some (V.str st.tag), some (V.ref gl), none, none], ?_, ?_⟩
  · obtain ⟨gl, sm, ga0, e⟩ := m0
    refine ⟨_, rfl, rfl, _, rfl, ?_⟩
    by_cases h : st.tagI = 0
    · obtain ⟨x, ex, rfl⟩ : ∃ x ex, st = .set x ex := by cases st <;> first | exact ⟨_, _, rfl⟩ | cases h
      refine if_t (dtag_set _) ?_
      obtain ⟨_, _, e1, hu, _, _, rfl, rfl, x1, _, rfl, hx1, x2, _, rfl, hx2, rfl⟩ := hsv
      cases e1
      rw [hsu] at hu
      cases hu
      refine ⟨_, rfl, pa, _, _, _, rfl, rfl, hpa' sm, rfl, _, rfl, _, rfl, pa, _, _, _, rfl, rfl, hpa' sm, rfl, su, _, _, _, rfl, rfl, hsu' sm, rfl, _, rfl, pa, _, _, _, rfl, rfl, hpa' sm, rfl, su, _, _, _, rfl, rfl, hsu' sm, rfl, _, rfl, ?_⟩
      refine ⟨ex, x2, va, g, f.2, rfl, Rp.at (s2.trans sm).tups _ _ hx2, hva.same sm, ok1 sok.2.1, by have := sok.2.2; omega, fun H4 sm4 => ?_⟩
      refine ⟨va, g, f.2, x, x1, _, rfl, (hva.same sm).same sm4, Rp.at ((s2.trans sm).trans sm4).tups _ _ hx1, okv sok.1, fun r4 H5 sm5 hr4 => ⟨two, fun q5 hq5 => ⟨one, fun q6 hq6 => ?_⟩⟩⟩
      refine ⟨q6, ((((sm.trans sm4).trans sm5).new hq5).new hq6), ?_, rfl⟩
      rw [gsTo_this h]
      simp only [goals]
      rw [efo]
      exact GoalsAt.one upd_same (gv0 (same_upd hq6 _ _ upd_same) ((hr4.same (same_upd hq5)).same (same_upd hq6)))
    · refine if_f (by rw [dtag_set]; exact beq_eq_false_iff_ne.mpr h) ?_
      exact ⟨gl, sm, by rw [gsTo_other h]; exact ga0, e⟩
  -- free
  rintro σ' H' ⟨gl, sm, ga0, rfl⟩
  refine ⟨fun σ' H' => ∃ gl, Same H2 H' ∧ GoalsAt H' gl (gsTo p g f.2 st 2) ∧ σ' = [some (V.ref a), some (V.ref t), some (V.ref sa), some (V.ref f1), some (V.ref ra), some (V.ref pa), some (V.ref va), some (V.str st.tag), some (V.ref gl), none, none], ?_, ?_⟩
  · refine ⟨_, rfl, rfl, _, rfl, ?_⟩
    by_cases h : st.tagI = 1
    · obtain ⟨x, rfl⟩ : ∃ x, st = .free x := by cases st <;> first | exact ⟨_, rfl⟩ | cases h
      refine if_t (dtag_free _) ?_
      obtain ⟨_, _, e1, hu, _, _, rfl, rfl, x1, _, rfl, hx1, rfl⟩ := hsv
      cases e1
      rw [hsu] at hu
      cases hu
      refine ⟨two, fun lb hlb => ⟨lb, rfl, ⟨_, SqL.of upd_same⟩, fun D hD => ?_⟩⟩
      have smb := sm.new (o := .lst [V.bl false, V.bl true]) hlb
      have hlb1 : (upd H' lb (.lst [V.bl false, V.bl true])) lb = some (.lst [V.bl false, V.bl true]) := upd_same
      generalize upd H' lb (.lst [V.bl false, V.bl true]) = Hb at *
      refine lc_it (walk_list (K := K) (a := lb) (xs := [V.bl false, V.bl true])) (fun j H3 => Same Hb H3 ∧ ∃ ys, H3 D = some (.lst ys) ∧ ys.length = j ∧ ∀ (j : Nat) y, ys[j]? = some y → ∃ z, ([(fo, x.set g f.2 false), (fo, x.set g f.2 true)] : List Goal)[j]? = some z ∧ GoalV H3 z y) ⟨same_upd hD, [], upd_same, rfl, fun j y hy => by simp at hy⟩ (fun j H3 _ z => SqL.of (z.1 _ _ hlb1)) ?_ ?_
      · rintro j y _ H3 hj ⟨sm3, ys, hD3, hyl, hys⟩ ⟨rfl, hyj⟩
        have s3 := smb.trans sm3
        obtain ⟨bb, rfl, hbb⟩ : ∃ bb, y = .bl bb ∧ ([(fo, x.set g f.2 false), (fo, x.set g f.2 true)] : List Goal)[j]? = some (fo, x.set g f.2 bb) := by
          match j with
          | 0 => simp at hyj; exact ⟨false, hyj.symm, rfl⟩
          | 1 => simp at hyj; exact ⟨true, hyj.symm, rfl⟩
          | j + 2 =>
            have h2 : j + 2 < 2 := hj
            omega
        refine ⟨rfl, ?_⟩
        dsimp only [tYes]
        refine iteT ?_
        refine ⟨_, rfl, pa, _, _, _, rfl, rfl, hpa' s3, rfl, _, rfl, _, rfl, pa, _, _, _, rfl, rfl, hpa' s3, rfl, su, _, _, _, rfl, rfl, hsu' s3, rfl, _, rfl, ?_⟩
        refine ⟨va, g, f.2, x, x1, bb, rfl, hva.same s3, Rp.at (s2.trans s3).tups _ _ hx1, okv sok, fun r4 H5 sm5 hr4 => ⟨two, fun q5 hq5 => ?_⟩⟩
        have s5 := (sm5.new (o := .tup [V.int fo, V.ref r4]) hq5)
        refine ⟨ys, s5 _ _ hD3, smallL (by simp at hj; omega), (sm3.trans s5).mut hD, _, upd_same, by rw [List.length_append, hyl]; rfl, fun i z hz => ?_⟩
        have up : ∀ {z : Goal} {u : V}, GoalV (upd H5 q5 (.tup [V.int fo, V.ref r4])) z u → GoalV (upd (upd H5 q5 (.tup [V.int fo, V.ref r4])) D (.lst (ys ++ [.ref q5]))) z u := by
          rintro z u ⟨t1, vl, rfl, h1, ga1, la1, h2, h3, h4⟩
          have hDD := s5 _ _ hD3
          have nD : ∀ {b : Addr} {o : HO}, (upd H5 q5 (.tup [V.int fo, V.ref r4])) b = some o → o ≠ .lst ys → b ≠ D := fun e ne => ne_of e hDD ne
          have j2 : j < 2 := hj
          have nvl : vl ≠ D := ne_of h2 hDD (by
            intro z
            injection z with z
            have z2 := congrArg List.length z
            simp at z2
            omega)
          exact ⟨t1, vl, rfl, by rw [upd_ne (nD h1 (by intro z; cases z))]; exact h1, ga1, la1, by rw [upd_ne nvl]; exact h2, by rw [upd_ne (nD h3 (by intro z; cases z))]; exact h3, by rw [upd_ne (nD h4 (by intro z; cases z))]; exact h4⟩
        by_cases hi : i < ys.length
        · rw [List.getElem?_append_left hi] at hz
          obtain ⟨x0, e1, e2⟩ := hys i z hz
          exact ⟨x0, e1, up (e2.same s5)⟩
        · have ei : i = j := by
            have := (List.getElem?_eq_some_iff.mp hz).1
            rw [List.length_append, List.length_singleton] at this
            omega
          subst ei
          rw [← hyl, List.getElem?_append_right (Nat.le_refl _), Nat.sub_self] at hz
          have hz2 : V.ref q5 = z := by simpa using hz
          subst hz2
          exact ⟨_, hbb, up (gv0 upd_same (hr4.same (same_upd hq5)))⟩
      · rintro H3 ⟨sm3, ys, hD3, hyl, hys⟩
        refine ⟨D, smb.trans sm3, ?_, rfl⟩
        rw [gsTo_this h]
        simp only [goals]
        rw [efo]
        exact ⟨ys, hD3, hyl, hys⟩
    · refine if_f (by rw [dtag_free]; exact beq_eq_false_iff_ne.mpr h) ?_
      exact ⟨gl, sm, by rw [gsTo_other h]; exact ga0, rfl⟩
  -- if
  rintro σ' H' ⟨gl, sm, ga0, rfl⟩
  refine ⟨fun σ' H' => ∃ gl, Same H2 H' ∧ GoalsAt H' gl (gsTo p g f.2 st 3) ∧ σ' = [some (V.ref a), some (V.ref t), some (V.ref sa), some (V.ref f1), some (V.ref ra), some (V.ref pa), some (V.ref va), some (V.str st.tag), some (V.ref gl), none, none], ?_, ?_⟩
  · refine ⟨_, rfl, rfl, _, rfl, ?_⟩
    by_cases h : st.tagI = 2
    · obtain ⟨ex, ba, bb, rfl⟩ : ∃ ex ba bb, st = .ite ex ba bb := by cases st <;> first | exact ⟨_, _, _, rfl⟩ | cases h
      refine if_t (dtag_if _) ?_
      obtain ⟨_, _, e1, hu, _, _, rfl, rfl, x1, _, rfl, hx1, x2, _, rfl, hx2, x3, _, rfl, hx3, rfl⟩ := hsv
      cases e1
      rw [hsu] at hu
      cases hu
      refine ⟨_, rfl, pa, _, _, _, rfl, rfl, hpa' sm, rfl, _, rfl, pa, _, _, _, rfl, rfl, hpa' sm, rfl, su, _, _, _, rfl, rfl, hsu' sm, rfl, _, rfl, ?_⟩
      refine ⟨ex, x1, va, g, f.2, rfl, Rp.at (s2.trans sm).tups _ _ hx1, hva.same sm, ok1 sok.1.1, by have := sok.1.2; omega, fun H4 sm4 => .inr ⟨_, rfl, _, _, rfl, rfl, ?_⟩⟩
      have hix : atI (p.ent.map fun n : Nat => V.int (n : Int)) ((1 : Int) - (if ex.val g f.2 = true then 1 else 0)) = some (.int (p.en (if ex.val g f.2 = true then 0 else 1))) := by
        cases ex.val g f.2
        · exact at_ent (i := 1) (by rw [hlen]; simp [Sm.bods])
        · exact at_ent (i := 0) (by rw [hlen]; simp [Sm.bods])
      refine ⟨en, _, _, _, rfl, rfl, SqL.of ((sm.trans sm4) _ _ hen2), hix, _, rfl, two, fun q5 hq5 => ⟨one, fun q6 hq6 => ?_⟩⟩
      refine ⟨q6, (((sm.trans sm4).new hq5).new hq6), ?_, rfl⟩
      rw [gsTo_this h]
      exact GoalsAt.one upd_same (gv0 (same_upd hq6 _ _ upd_same) (hva.same (((sm.trans sm4).new hq5).new hq6)))
    · refine if_f (by rw [dtag_if]; exact beq_eq_false_iff_ne.mpr h) ?_
      exact ⟨gl, sm, by rw [gsTo_other h]; exact ga0, rfl⟩
  -- either
  rintro σ' H' ⟨gl, sm, ga0, rfl⟩
  refine ⟨fun σ' H' => ∃ gl, Same H2 H' ∧ GoalsAt H' gl (gsTo p g f.2 st 4) ∧ σ' = [some (V.ref a), some (V.ref t), some (V.ref sa), some (V.ref f1), some (V.ref ra), some (V.ref pa), some (V.ref va), some (V.str st.tag), some (V.ref gl), none, none], ?_, ?_⟩
  · refine ⟨_, rfl, rfl, _, rfl, ?_⟩
    by_cases h : st.tagI = 3
    · obtain ⟨ba, bb, rfl⟩ : ∃ ba bb, st = .ei ba bb := by cases st <;> first | exact ⟨_, _, rfl⟩ | cases h
      refine if_t (dtag_either _) ?_
      refine ⟨_, rfl, pa, _, _, _, rfl, rfl, hpa' sm, rfl, en, _, _, _, rfl, rfl, SqL.of (sm _ _ hen2), at_ent (i := 0) (by rw [hlen]; simp [Sm.bods]), _, rfl, two, fun q5 hq5 => ?_⟩
      have sm5 := sm.new (o := .tup [V.int (p.en 0), V.ref va]) hq5
      refine ⟨_, rfl, pa, _, _, _, rfl, rfl, hpa' sm5, rfl, en, _, _, _, rfl, rfl, SqL.of (sm5 _ _ hen2), at_ent (i := 1) (by rw [hlen]; simp [Sm.bods]), _, rfl, two, fun q6 hq6 => ⟨two, fun q7 hq7 => ?_⟩⟩
      refine ⟨q7, ((sm5.new hq6).new hq7), ?_, rfl⟩
      rw [gsTo_this h]
      have hv7 := hva.same ((sm5.new (o := .tup [V.int (p.en 1), V.ref va]) hq6).new (o := .lst [V.ref q5, V.ref q6]) hq7)
      exact GoalsAt.two upd_same (gv0 (same_upd hq7 _ _ (same_upd hq6 _ _ upd_same)) hv7) (gv0 (same_upd hq7 _ _ upd_same) hv7)
    · refine if_f (by rw [dtag_either]; exact beq_eq_false_iff_ne.mpr h) ?_
      exact ⟨gl, sm, by rw [gsTo_other h]; exact ga0, rfl⟩
  -- while
  rintro σ' H' ⟨gl, sm, ga0, rfl⟩
  refine ⟨fun σ' H' => ∃ gl, Same H2 H' ∧ GoalsAt H' gl (gsTo p g f.2 st 5) ∧ σ' = [some (V.ref a), some (V.ref t), some (V.ref sa), some (V.ref f1), some (V.ref ra), some (V.ref pa), some (V.ref va), some (V.str st.tag), some (V.ref gl), none, none], ?_, ?_⟩
  · refine ⟨_, rfl, rfl, _, rfl, ?_⟩
    by_cases h : st.tagI = 4
    · obtain ⟨ex, bb, rfl⟩ : ∃ ex bb, st = .wh ex bb := by cases st <;> first | exact ⟨_, _, rfl⟩ | cases h
      refine if_t (dtag_while _) ?_
      obtain ⟨_, _, e1, hu, _, _, rfl, rfl, x1, _, rfl, hx1, x2, _, rfl, hx2, rfl⟩ := hsv
      cases e1
      rw [hsu] at hu
      cases hu
      refine ⟨_, rfl, pa, _, _, _, rfl, rfl, hpa' sm, rfl, su, _, _, _, rfl, rfl, hsu' sm, rfl, _, rfl, ?_⟩
      refine ⟨ex, x1, va, g, f.2, rfl, Rp.at (s2.trans sm).tups _ _ hx1, hva.same sm, ok1 sok.1.1, by have := sok.1.2; omega, fun H4 sm4 => ⟨_, rfl, ?_⟩⟩
      refine ite2 (fun c => ?_) (fun c => ?_)
      · refine ⟨_, rfl, pa, _, _, _, rfl, rfl, hpa' (sm.trans sm4), rfl, en, _, _, _, rfl, rfl, SqL.of ((sm.trans sm4) _ _ hen2), at_ent (i := 0) (by rw [hlen]; simp [Sm.bods]), _, rfl, two, fun q5 hq5 => ⟨one, fun q6 hq6 => ?_⟩⟩
        refine ⟨q6, (((sm.trans sm4).new hq5).new hq6), ?_, rfl⟩
        rw [gsTo_this h]
        simp only [goals]
        rw [if_pos c]
        exact GoalsAt.one upd_same (gv0 (same_upd hq6 _ _ upd_same) (hva.same (((sm.trans sm4).new hq5).new hq6)))
      · refine ⟨gl, sm.trans sm4, ?_, rfl⟩
        have e9 : gsTo p g f.2 (.wh ex bb) 4 = [(p.follow, g, f.2)] := by unfold gsTo; rw [if_neg (by simp [Sm.tagI])]
        rw [e9] at ga0
        rw [gsTo_this h]
        simp only [goals]
        rw [if_neg c]
        exact ga0.same sm4
    · refine if_f (by rw [dtag_while]; exact beq_eq_false_iff_ne.mpr h) (if_f rfl ?_)
      exact ⟨gl, sm, by rw [gsTo_other h]; exact ga0, rfl⟩
  -- repeat
  rintro σ' H' ⟨gl, sm, ga0, rfl⟩
  refine ⟨fun σ' H' => ∃ gl, Same H2 H' ∧ GoalsAt H' gl (gsTo p g f.2 st 6) ∧ σ' = [some (V.ref a), some (V.ref t), some (V.ref sa), some (V.ref f1), some (V.ref ra), some (V.ref pa), some (V.ref va), some (V.str st.tag), some (V.ref gl), none, none], ?_, ?_⟩
  · refine ⟨_, rfl, rfl, _, rfl, ?_⟩
    by_cases h : st.tagI = 5
    · obtain ⟨bb, rfl⟩ : ∃ bb, st = .rp bb := by cases st <;> first | exact ⟨_, rfl⟩ | cases h
      refine if_t (dtag_repeat _) ?_
      refine ⟨_, rfl, pa, _, _, _, rfl, rfl, hpa' sm, rfl, en, _, _, _, rfl, rfl, SqL.of (sm _ _ hen2), at_ent (i := 0) (by rw [hlen]; simp [Sm.bods]), _, rfl, two, fun q5 hq5 => ?_⟩
      have sm5 := sm.new (o := .tup [V.int (p.en 0), V.ref va]) hq5
      refine ⟨_, rfl, pa, _, _, _, rfl, rfl, hpa' sm5, rfl, _, rfl, two, fun q6 hq6 => ⟨two, fun q7 hq7 => ?_⟩⟩
      refine ⟨q7, ((sm5.new hq6).new hq7), ?_, rfl⟩
      rw [gsTo_this h]
      simp only [goals]
      rw [efo]
      have hv7 := hva.same ((sm5.new (o := .tup [V.int fo, V.ref va]) hq6).new (o := .lst [V.ref q5, V.ref q6]) hq7)
      exact GoalsAt.two upd_same (gv0 (same_upd hq7 _ _ (same_upd hq6 _ _ upd_same)) hv7) (gv0 (same_upd hq7 _ _ upd_same) hv7)
    · refine if_f (by rw [dtag_repeat]; exact beq_eq_false_iff_ne.mpr h) ?_
      exact ⟨gl, sm, by rw [gsTo_other h]; exact ga0, rfl⟩
  -- the situations
  rintro σ' H' ⟨gl, sm, ga0, rfl⟩
  have eall : gsTo p g f.2 st 6 = goals p g f.2 st := by
    cases st <;> first | exact gsTo_this rfl | rfl | exact absurd rfl isret | exact absurd ⟨_, rfl⟩ iscall
  have eaft : aftP G p g f.2 = (goals p g f.2 st).map fun x => (x.2.1, [(x.1, x.2.2)]) := by
    unfold aftP
    rw [hs]
    cases st <;> first | rfl | exact absurd rfl isret | exact absurd ⟨_, rfl⟩ iscall
  have hgs2 : (goals p g f.2 st).length ≤ 2 := by cases st <;> simp [goals]
  rw [eall] at ga0
  rw [eaft, List.map_map, List.map_map] at k
  generalize goals p g f.2 st = gs at *
  obtain ⟨ys, hgl, hyl, hys⟩ := ga0
  refine ⟨_, rfl, gl, rfl, ⟨_, SqL.of hgl⟩, fun D hD => ?_⟩
  refine lc_it (walk_list (K := K) (a := gl) (xs := ys)) (fun j H3 => Same H' H3 ∧ ∃ zs, H3 D = some (.lst zs) ∧ RpAll H3 ((gs.take j).map fun x => sitD (x.2.1, (x.1, x.2.2) :: r)) zs) ⟨same_upd hD, [], upd_same, rfl⟩ (fun j H3 _ z => SqL.of (z.1 _ _ hgl)) ?_ ?_
  · rintro j y _ H3 hj ⟨sm3, zs, hD3, rz⟩ ⟨rfl, hyj⟩
    obtain ⟨x, hxj, t1, vl, rfl, ht1, ga1, la1, hvl, hga1, hla1⟩ := hys j y hyj
    have hzl : zs.length ≤ j := by rw [rz.len, List.length_map, List.length_take]; omega
    have s3 := sm.trans sm3
    refine ⟨rfl, ?_⟩
    dsimp only [tYes]
    refine iteT ?_
    refine ⟨_, rfl, t1, _, _, _, rfl, rfl, SqT.of (sm3 _ _ ht1), rfl, vl, _, _, _, rfl, rfl, SqL.of (sm3 _ _ hvl), rfl, ?_⟩
    refine ⟨_, rfl, t1, _, _, _, rfl, rfl, SqT.of (sm3 _ _ ht1), rfl, _, rfl, t1, _, _, _, rfl, rfl, SqT.of (sm3 _ _ ht1), rfl, vl, _, _, _, rfl, rfl, SqL.of (sm3 _ _ hvl), rfl, two, fun q5 hq5 => ⟨one, fun q6 hq6 => ?_⟩⟩
    have e6 := (same_upd (o := .tup [V.int x.1, V.ref la1]) hq5).new (o := .tup [V.ref q5]) hq6
    have hq56 : (upd (upd H3 q5 (.tup [V.int x.1, V.ref la1])) q6 (.tup [V.ref q5])) q5 = some (.tup [V.int x.1, V.ref la1]) := same_upd hq6 _ _ upd_same
    have hq66 : (upd (upd H3 q5 (.tup [V.int x.1, V.ref la1])) q6 (.tup [V.ref q5])) q6 = some (.tup [V.ref q5]) := upd_same
    generalize upd (upd H3 q5 (.tup [V.int x.1, V.ref la1])) q6 (.tup [V.ref q5]) = H6 at *
    have s6 := sm3.trans e6
    have all6 : RpAll H6 (((x.1, x.2.2) :: r).map frD) ([V.ref q5] ++ rvs) := .cons ⟨q5, _, rfl, hq56, .cons rfl (.one (Rp.boolsT.mpr ⟨la1, rfl, s6 _ _ hla1⟩))⟩ (RpAll.at (sm.trans s6).tups _ _ rrest)
    have fin : ∀ (fa' : Addr) (H7 : Hp), Same H6 H7 → H7 fa' = some (.tup ([V.ref q5] ++ rvs)) → ([V.ref ga1, V.ref fa'] : List V).length ≤ sizeLine ∧ ∀ q8, H7 q8 = none → ∃ acc, (upd H7 q8 (.tup [V.ref ga1, V.ref fa'])) D = some (.lst acc) ∧ acc.length < sizeLine ∧
        (Same H' (upd (upd H7 q8 (.tup [V.ref ga1, V.ref fa'])) D (.lst (acc ++ [V.ref q8]))) ∧ ∃ zs, (upd (upd H7 q8 (.tup [V.ref ga1, V.ref fa'])) D (.lst (acc ++ [V.ref q8]))) D = some (.lst zs) ∧ RpAll (upd (upd H7 q8 (.tup [V.ref ga1, V.ref fa'])) D (.lst (acc ++ [V.ref q8]))) ((gs.take (j + 1)).map fun x => sitD (x.2.1, (x.1, x.2.2) :: r)) zs) := by
      intro fa' H7 s7 h7
      refine ⟨two, fun q8 hq8 => ?_⟩
      have e8 := s7.new (o := .tup [V.ref ga1, V.ref fa']) hq8
      have hD8 := e8 _ _ (e6 _ _ hD3)
      refine ⟨zs, hD8, smallL (by omega), ((s6.trans e8).mut hD), _, upd_same, ?_⟩
      rw [List.take_add_one, hxj, List.map_append]
      refine RpAll.at (tups_lst hD8) _ _ (RpAll.snoc (RpAll.at (e6.trans e8).tups _ _ rz) ?_)
      exact Rp.new hq8 (.cons (Rp.boolsT.mpr ⟨ga1, rfl, s7 _ _ (s6 _ _ hga1)⟩) (.one ⟨fa', _, rfl, h7, RpAll.at s7.tups _ _ all6⟩))
    refine ⟨_, rfl, q6, ra, _, _, rfl, rfl, SqT.of hq66, SqT.of ((sm.trans s6) _ _ hra2), small (by simp only [List.length_cons, List.length_nil]; omega), (fun z => by cases z), (fun _ z => ?_), fun _ _ q7 hq7 => ?_⟩
    · exact fin q6 H6 (Same.refl H6) (by rw [hq66, z, List.append_nil])
    · exact fin q7 _ (same_upd hq7) upd_same
  · rintro H3 ⟨sm3, zs, hD3, rz⟩
    rw [hyl, List.take_length] at rz
    exact k D zs H3 ((s2.trans sm).trans sm3) ((s2.trans sm).free hD) hD3 rz
end
end Pr
/-! The program's walker: frames, what follows a frame. -/
namespace Pr
open PySem PySem.Spec PyProof.Rows L2 RT
open C8 (Cal Met Mak pe_c pe_mk pe_mt pe_mt0)
def WkAt (K : PySem.W.Frag) (H : Hp) (a : Addr) (G : Prog) : Prop := ∃ dx pg mp : Addr, H a = some (.ins (He.ga K "Walker") dx [("program", .ref pg), ("map", .ref mp)]) ∧ PgAt K H pg G ∧ MpAt K H mp G
theorem WkAt.same {K : PySem.W.Frag} {H H' : Hp} {a : Addr} {G : Prog} (h : WkAt K H a G) (e : Same H H') : WkAt K H' a G := let ⟨dx, pg, mp, h1, h2, h3⟩ := h; ⟨dx, pg, mp, e _ _ h1, h2.same e, h3.same e⟩
def GlV (H : Hp) (x : Goal) (v : V) : Prop := ∃ t d : Addr, v = .ref t ∧ H t = some (.tup [.int x.1, .ref d]) ∧ DvAt H d x.2.1 x.2.2
theorem GlV.same {H H' : Hp} {x : Goal} {v : V} (h : GlV H x v) (e : Same H H') : GlV H' x v := by
  obtain ⟨t, vl, rfl, h1, h2⟩ := h
  exact ⟨t, vl, rfl, e _ _ h1, h2.same e⟩
def GlsAt (H : Hp) (a : Addr) (gs : List Goal) : Prop := ∃ ys : List V, H a = some (.lst ys) ∧ ys.length = gs.length ∧ ∀ (j : Nat) y, ys[j]? = some y → ∃ x, gs[j]? = some x ∧ GlV H x y
theorem GlsAt.same {H H' : Hp} {a : Addr} {gs : List Goal} (h : GlsAt H a gs) (e : Same H H') : GlsAt H' a gs := by
  obtain ⟨ys, h1, h2, h3⟩ := h
  exact ⟨ys, e _ _ h1, h2, fun j y hy => let ⟨x, a, b⟩ := h3 j y hy; ⟨x, a, b.same e⟩⟩
theorem GlsAt.one {H : Hp} {a : Addr} {x : Goal} {v : V} (h : H a = some (.lst [v])) (g : GlV H x v) : GlsAt H a [x] := ⟨[v], h, rfl, fun j y hy => by
  cases j with
  | zero => simp at hy; subst hy; exact ⟨x, rfl, g⟩
  | succ j => simp at hy⟩
theorem GlsAt.two {H : Hp} {a : Addr} {x1 x2 : Goal} {v1 v2 : V} (h : H a = some (.lst [v1, v2])) (g1 : GlV H x1 v1) (g2 : GlV H x2 v2) : GlsAt H a [x1, x2] := ⟨[v1, v2], h, rfl, fun j y hy => by
  match j with
  | 0 => simp at hy; subst hy; exact ⟨x1, rfl, g1⟩
  | 1 => simp at hy; subst hy; exact ⟨x2, rfl, g2⟩
  | j + 2 => simp at hy⟩
theorem pe_fldK {X : Cx} {K : PySem.W.Frag} {e : Expr} {f : Str} {pos : Pos} {ta : TE} (hK : X.K = K) (he : PE X e ta) (hb : attributeBase e f X.env (eval e X.env) = eval e X.env) : PE X (.Attribute e f pos) (tFld K ta f) := by
  subst hK
  exact pe_fld he hb
section
variable {P : Program} {w : World} {K : PySem.W.Frag} {mg : Str → Option Value} {base : Heap}
def sp_walker (K : PySem.W.Frag) : Sp := fun vs H Q _ => ∃ (x dx pg : Addr) (G : Prog) (H0 : Hp), vs = [.ref x, .ref pg] ∧ Same H0 H ∧ H0 x = none ∧ H x = some (.ins (He.ga K "Walker") dx []) ∧ PgAt K H0 pg G ∧ G.Ok ∧ ∀ H', Same H0 H' → WkAt K H' x G → Q .non H'
abbrev n_Walker___init__ : List Str := ["self", "program"]
theorem sc_Walker___init__ : FnScope n_Walker___init__ ["self", "program"] (defScope s_Walker___init__) := ⟨rfl, rfl, rfl, by decide +kernel, rfl, by decide +kernel, by decide +kernel⟩
theorem ok_walker (T : Env K mg) (c_Points : Mak P w K mg base 7 "Points" (He.ga K "Points") (sp_points K) []) : Mak P w K mg base 9 "Walker" (He.ga K "Walker") (sp_walker K) [] := by
  obtain ⟨fd, F⟩ := T.F_Walker___init__
  refine mak_by F T.k_Walker T.g_Walker (F.bindsN fun _ _ _ _ _ _ us hl => match us, hl with | [_, _], _ => rfl) .nil sc_Walker___init__ (fun vs H Q E h => ?_) (fun cdv A outer s H vs Q E hr h => ?_)
  · obtain ⟨x, dx, pg, G, H0, rfl, _⟩ := h
    rfl
  obtain ⟨x, dx, pg, G, H0, rfl, sm, hx0, hx, hpg, ok, fin⟩ := h
  refine ⟨_, pss_cons (ps_fld (pv 0) (pv 1) rfl)
      (pss_one (ps_fld (pv 0) (pe_mk c_Points hr (by omega) rfl (pa_cons (pv 1) pa_nil)) rfl)), ?_⟩
  refine ⟨_, rfl, _, rfl, x, _, dx, _, rfl, hx, T.c_Walker, T.n_Walker_program, (by show 0 < 1000; decide), ?_⟩
  have s1 := sm.mut (o := .ins (He.ga K "Walker") dx (putF "program" (.ref pg) [])) hx0
  have hx1 : (upd H x (.ins (He.ga K "Walker") dx (putF "program" (.ref pg) []))) x = some (.ins (He.ga K "Walker") dx (putF "program" (.ref pg) [])) := upd_same
  generalize upd H x (.ins (He.ga K "Walker") dx (putF "program" (.ref pg) [])) = H1 at *
  refine ⟨_, rfl, fun mp dxm h1 h2 h3 => ⟨mp, dxm, pg, G, H1, rfl, made h1 h2, h1, upd_same, hpg.same s1, ok, fun H2 sm2 hmp => ⟨rfl, ?_⟩⟩⟩
  refine ⟨_, rfl, x, _, dx, _, rfl, sm2 _ _ hx1, T.c_Walker, T.n_Walker_map, (by show 1 < 1000; decide), ?_⟩
  have s3 := s1.trans sm2
  obtain ⟨dm, lp, le, as, m1, m2, m3, m4, m5⟩ := hmp
  have nx : ∀ {c : Addr} {u : HO}, H2 c = some u → H1 c = none → c ≠ x := fun _ e z => by
    rw [z, hx1] at e
    cases e
  have up : ∀ c u, H2 c = some u → c ≠ x → (upd H2 x (.ins (He.ga K "Walker") dx (putF "map" (.ref mp) (putF "program" (.ref pg) [])))) c = some u := fun c u z n => by rw [upd_ne n]; exact z
  have hx2 := sm2 _ _ hx1
  have keep : ∀ c u, H2 c = some u → (∀ C d fs, u = .ins C d fs → 2 ≤ fs.length) → (upd H2 x (.ins (He.ga K "Walker") dx (putF "map" (.ref mp) (putF "program" (.ref pg) [])))) c = some u := fun c u z n => up c u z fun y => by
    rw [y, hx2] at z
    cases z
    have := n _ _ _ rfl
    simp [putF] at this
  have tp : Tups H2 (upd H2 x (.ins (He.ga K "Walker") dx (putF "map" (.ref mp) (putF "program" (.ref pg) [])))) := fun c xs e => keep c _ e fun _ _ _ z => by cases z
  obtain ⟨dpg, tt, xs, p1, p2, p3⟩ := hpg.same s3
  refine fin _ (s3.mut hx0) ⟨dx, pg, mp, upd_same, ⟨dpg, tt, xs, keep _ _ p1 fun _ _ _ z => (by cases z; simp), tp _ _ p2, RpAll.at tp _ _ p3⟩, ⟨dm, lp, le, as, keep _ _ m1 fun _ _ _ z => (by cases z; simp), keep _ _ m2 fun _ _ _ z => (by cases z), keep _ _ m3 fun _ _ _ z => (by cases z), m4, fun j p e => ?_⟩⟩
  obtain ⟨y, z1, dxy, sv, z2, z3, z4⟩ := m5 j p e
  exact ⟨y, z1, dxy, sv, keep _ _ z2 fun _ _ _ z => (by cases z; simp), z3.at tp, keep _ _ z4 fun _ _ _ z => (by cases z)⟩
def sp_entf (K : PySem.W.Frag) : Sp := fun vs H Q _ => ∃ (a : Addr) (G : Prog) (i : Nat), vs = [.ref a, .int i] ∧ WkAt K H a G ∧ G.Ok ∧ i < G.procs.length ∧ ∀ (v : V) (H' : Hp), Same H H' → Rp H' (frD (G.entry i)) v → Q v H'
abbrev n_Walker_entry_frame : List Str := ["self", "procedure"]
theorem sc_Walker_entry_frame : FnScope n_Walker_entry_frame ["self", "procedure"] (defScope s_Walker_entry_frame) := ⟨rfl, rfl, rfl, by decide +kernel, rfl, by decide +kernel, by decide +kernel⟩
theorem ok_entf (T : Env K mg) (c_no_values : Cal P w K mg base 1 "no_values" sp_nov []) : Met P w K mg base 2 (He.ga K "Walker") "entry_frame" (sp_entf K) [] := by
  obtain ⟨fd, F⟩ := T.F_Walker_entry_frame
  refine met_by F T.c_Walker T.m_Walker_entry_frame (F.bindsN fun _ _ _ _ _ _ us hl => match us, hl with | [_, _], _ => rfl) sc_Walker_entry_frame (fun vs H Q E h => ?_) (fun cdv A outer s H vs Q E hr h => ?_)
  · obtain ⟨a, G, i, rfl, _⟩ := h
    rfl
  obtain ⟨a, G, i, rfl, ⟨dx, pg, mp, ha, ⟨dpg, tt, xs, p1, p2, p3⟩, ⟨dm, lp, le, as, m1, m2, m3, m4, m5⟩⟩, ok, hi, k⟩ := h
  obtain ⟨n, q, hb, _, _⟩ := Prog.beg_at hi
  obtain ⟨pr, hpr⟩ : ∃ pr, G.procs[i]? = some pr := ⟨_, List.getElem?_eq_getElem hi⟩
  obtain ⟨v, hv, rv⟩ := p3.get (i := i) (d := procD pr) (by rw [List.getElem?_map, hpr]; rfl)
  obtain ⟨u, us, rfl, hu, v1, _, rfl, rfl, vb, _, rfl, rb, rfl⟩ := rv
  have lc := ok.lc pr (List.mem_of_getElem? hpr)
  have elc : G.lc i = pr.1 := by unfold Prog.lc; rw [hpr]; rfl
  have een : G.entry i = (n, falses pr.1) := by unfold Prog.entry; rw [elc]; simp only [List.getD, hb, Option.getD_some]
  refine ⟨_, pss_one (ps_ret (pe_tup (pa_cons (pe_ix ix_list (pe_fld (pe_fld (pv 0) rfl) rfl) (pv 1) (fun _ _ => rfl)) (pa_cons (pe_c c_no_values hr (by omega) rfl (pa_cons (pe_ix ix_tup (pe_ix ix_tup (pe_fld (pe_fld (pv 0) rfl) rfl) (pv 1) (fun _ _ => rfl)) pe_int (fun _ _ => rfl)) pa_nil)) pa_nil)))), ?_⟩
  refine ⟨_, rfl, a, _, dx, _, _, rfl, ha, T.c_Walker, T.n_Walker_map, rfl, mp, _, dm, _, _, rfl, m1, T.c_Points, T.n_Points_entries, rfl, _, rfl, le, _, i, _, rfl, rfl, SqL.of m3, atI_nat (by rw [List.getElem?_map, hb]; rfl), ?_⟩
  refine ⟨_, rfl, a, _, dx, _, _, rfl, ha, T.c_Walker, T.n_Walker_program, rfl, pg, _, dpg, _, _, rfl, p1, T.c_Program, T.n_Program_procedures, rfl, _, rfl, tt, _, i, _, rfl, rfl, SqT.of p2, atI_nat hv, u, _, _, _, rfl, rfl, SqT.of hu, rfl, pr.1, rfl, by omega, fun va H1 s1 _ hva => ?_⟩
  refine ⟨(by show 2 ≤ sizeLine; decide), fun z hz => k _ _ (s1.new hz) ?_⟩
  rw [een]
  refine Rp.new hz (.cons rfl (.one ⟨va, _, rfl, hva, RpAll.bools _⟩))
def sp_goals (K : PySem.W.Frag) : Sp := fun vs H Q _ => ∃ (a o e d : Addr) (p : Pt) (s : Sm) (g l : List Bool) (G : Prog), vs = [.ref a, .ref o, .ref d] ∧ PO K H o e p ∧ p.stm = some s ∧ PtOk G p ∧ DvAt H d g l ∧ g.length = G.gc ∧ l.length = G.lc p.proc ∧ s.tagI ≠ 6 ∧ s.tagI ≠ 7 ∧
  ∀ (r : Addr) (H' : Hp), Same H H' → GlsAt H' r (goals p g l s) → Q (.ref r) H'
abbrev n_Walker_goals : List Str := ["self", "point", "values", "statement", "form", "value"]
theorem sc_Walker_goals : FnScope n_Walker_goals ["self", "point", "values"] (defScope s_Walker_goals) := ⟨rfl, rfl, rfl, by decide +kernel, rfl, by decide +kernel, by decide +kernel⟩
theorem ok_goals (T : Env K mg) (c_value_of : Cal P w K mg base 3 "value_of" (sp_valof 3) []) (c_with_value : Cal P w K mg base 1 "with_value" sp_withv []) : Met P w K mg base 4 (He.ga K "Walker") "goals" (sp_goals K) [] := by
  obtain ⟨fd, F⟩ := T.F_Walker_goals
  refine met_by F T.c_Walker T.m_Walker_goals (F.bindsN fun _ _ _ _ _ _ us hl => match us, hl with | [_, _, _], _ => rfl) sc_Walker_goals (fun vs H Q E h => ?_) (fun cdv A outer s H vs Q E hr h => ?_)
  · obtain ⟨a, o, e, d, p, s, g, l, G, rfl, _⟩ := h
    rfl
  obtain ⟨a, o, e, d, p, s, g, l, G, rfl, ⟨dx, sv, ho, hsv, hent⟩, hs, po, hd, hg, hl, h6, h7, k⟩ := h
  obtain ⟨sok, sdp, fo, hfo, _, _, hlen⟩ := po.stm s hs
  rw [hs] at hsv
  rw [hfo] at ho
  have efo : p.follow = fo := by simp [Pt.follow, hfo]
  rw [← hg, ← hl] at sok
  refine ⟨_, pss_cons (ps_set (i := 3) sc_Walker_goals.nd rfl (Or.inr rfl) (pe_fld (pv 1) rfl))
      (pss_cons (ps_set (i := 4) sc_Walker_goals.nd rfl (Or.inl rfl) (pe_ix ix_tup (pv 3) pe_int (fun _ _ => rfl)))
      (pss_cons (ps_if (pt_cmpR op_eq (pv 4) pe_str (nomark _))
        (pss_cons (ps_set (i := 5) sc_Walker_goals.nd rfl (Or.inl rfl) (pe_c c_value_of hr (by omega) rfl (pa_cons (pe_ix ix_tup (pv 3) pe_int (fun _ _ => rfl)) (pa_cons (pv 2) pa_nil))))
        (pss_one (ps_ret (pe_lst (pa_cons (pe_tup (pa_cons (pe_fld (pv 1) rfl) (pa_cons (pe_c c_with_value hr (by omega) rfl (pa_cons (pv 2) (pa_cons (pe_ix ix_tup (pv 3) pe_int (fun _ _ => rfl)) (pa_cons (pv 5) pa_nil)))) pa_nil))) pa_nil)))))
        pss_nil)
      (pss_cons (ps_if (pt_cmpR op_eq (pv 4) pe_str (nomark _))
        (pss_one (ps_ret (pe_lc (own := [("value", 5)]) (g := gName 5) (by rfl) sc_Walker_goals.nd (pi_tup (pe_tup (pa_cons pe_bl (pa_cons pe_bl pa_nil)))) (blkOk_by (own := [("value", 5)]) (N := n_Walker_goals) (sc := defScope s_Walker_goals) (by decide +kernel)) (fun _ _ _ _ _ => (pg_name (i := 5) sc_Walker_goals.nd rfl (Or.inl rfl))) (fun _ _ _ _ _ => pts_nil) (fun _ _ _ _ _ => (pe_tup (pa_cons (pe_fldK (K := K) rfl (pv 1) rfl) (pa_cons (pe_c c_with_value hr (by omega) rfl (pa_cons (pv 2) (pa_cons (pe_ix (r := rIxT K) ix_tup (pv 3) pe_int (fun _ _ => rfl)) (pa_cons (pv 5) pa_nil)))) pa_nil)))))))
        pss_nil)
      (pss_cons (ps_if (pt_cmpR op_eq (pv 4) pe_str (nomark _))
        (pss_one (ps_ret (pe_lst (pa_cons (pe_tup (pa_cons (pe_fld (pv 1) rfl) (pa_cons (pv 2) pa_nil))) pa_nil))))
        pss_nil)
      (pss_cons (ps_if (pt_cmpR op_eq (pv 4) pe_str (nomark _))
        (pss_one (ps_ret (pe_lst (pa_cons (pe_tup (pa_cons (pe_ix ix_list (pe_fld (pv 1) rfl) pe_int (fun _ _ => rfl)) (pa_cons (pv 2) pa_nil))) (pa_cons (pe_tup (pa_cons (pe_ix ix_list (pe_fld (pv 1) rfl) pe_int (fun _ _ => rfl)) (pa_cons (pv 2) pa_nil))) pa_nil)))))
        pss_nil)
      (pss_cons (ps_if (pt_cmpR op_eq (pv 4) pe_str (nomark _))
        (pss_one (ps_ret (pe_lst (pa_cons (pe_tup (pa_cons (pe_ix ix_list (pe_fld (pv 1) rfl) pe_int (fun _ _ => rfl)) (pa_cons (pv 2) pa_nil))) (pa_cons (pe_tup (pa_cons (pe_fld (pv 1) rfl) (pa_cons (pv 2) pa_nil))) pa_nil)))))
        pss_nil)
      (pss_cons (ps_if (pt_cmpR op_eq (pv 4) pe_str (nomark _))
        (pss_one (ps_ret (pe_lst (pa_cons (pe_tup (pa_cons (pe_ix ix_list (pe_fld (pv 1) rfl) (pe_ifExp (pt_val (pe_c c_value_of hr (by omega) rfl (pa_cons (pe_ix ix_tup (pv 3) pe_int (fun _ _ => rfl)) (pa_cons (pv 2) pa_nil)))) pe_int pe_int) (fun _ _ => rfl)) (pa_cons (pv 2) pa_nil))) pa_nil))))
        pss_nil)
      (pss_one (ps_ret (pe_lst (pa_cons (pe_tup (pa_cons (pe_ifExp (pt_val (pe_c c_value_of hr (by omega) rfl (pa_cons (pe_ix ix_tup (pv 3) pe_int (fun _ _ => rfl)) (pa_cons (pv 2) pa_nil)))) (pe_ix ix_list (pe_fld (pv 1) rfl) pe_int (fun _ _ => rfl)) (pe_fld (pv 1) rfl)) (pa_cons (pv 2) pa_nil))) pa_nil))))))))))), ?_⟩
  have one : ∀ {H1 : Hp} {n : Nat} {d1 : Addr} {g' l' : List Bool}, Same H H1 → DvAt H1 d1 g' l' → goals p g l s = [(n, g', l')] → ([V.int n, V.ref d1] : List V).length ≤ sizeLine ∧ ∀ t, H1 t = none → ([V.ref t] : List V).length ≤ sizeLine ∧ ∀ q, (upd H1 t (.tup [V.int n, V.ref d1])) q = none → Q (.ref q) (upd (upd H1 t (.tup [V.int n, V.ref d1])) q (.lst [V.ref t])) := fun sm hdv eg =>
    ⟨(by show 2 ≤ sizeLine; decide), fun t ht => ⟨(by show 1 ≤ sizeLine; decide), fun q hq => k q _ ((sm.new ht).new hq) (by
      rw [eg]
      exact GlsAt.one upd_same ⟨t, _, rfl, same_upd hq _ _ upd_same, (hdv.same (same_upd ht)).same (same_upd hq)⟩)⟩⟩
  have two : ∀ {n1 n2 : Nat}, goals p g l s = [(n1, g, l), (n2, g, l)] → ∀ t1, H t1 = none → ∀ t2, (upd H t1 (.tup [V.int n1, V.ref d])) t2 = none → ([V.ref t1, V.ref t2] : List V).length ≤ sizeLine ∧ ∀ q, (upd (upd H t1 (.tup [V.int n1, V.ref d])) t2 (.tup [V.int n2, V.ref d])) q = none → Q (.ref q) (upd (upd (upd H t1 (.tup [V.int n1, V.ref d])) t2 (.tup [V.int n2, V.ref d])) q (.lst [V.ref t1, V.ref t2])) := fun eg t1 h1 t2 h2 =>
    ⟨(by show 2 ≤ sizeLine; decide), fun q hq => k q _ (((same_upd h1).new h2).new hq) (by
      rw [eg]
      have s2 := ((same_upd (o := .tup [V.int _, V.ref d]) h1).new (o := .tup [V.int _, V.ref d]) h2).new (o := .lst [V.ref t1, V.ref t2]) hq
      exact GlsAt.two upd_same ⟨t1, _, rfl, same_upd hq _ _ (same_upd h2 _ _ upd_same), hd.same s2⟩ ⟨t2, _, rfl, same_upd hq _ _ upd_same, hd.same s2⟩)⟩
  cases s with
  | set x ex =>
    obtain ⟨q, xs, rfl, hq, _, _, rfl, rfl, vx, _, rfl, rx, ve, _, rfl, re, rfl⟩ := hsv
    refine ⟨_, rfl, o, _, dx, _, _, rfl, ho, T.c_Point, T.n_Point_statement, rfl, ?_⟩
    refine ⟨_, rfl, q, _, _, _, rfl, rfl, SqT.of hq, at0, ?_⟩
    refine ⟨_, rfl, rfl, _, rfl, if_t (by decide +kernel) ?_⟩
    refine ⟨_, rfl, q, _, _, _, rfl, rfl, SqT.of hq, rfl, _, rfl, ex, ve, d, g, l, rfl, re, hd, sok.2.1, Nat.lt_succ_of_le sok.2.2, ?_⟩
    refine ⟨_, rfl, o, _, dx, _, _, rfl, ho, T.c_Point, T.n_Point_follows, rfl, _, rfl, _, rfl, q, _, _, _, rfl, rfl, SqT.of hq, rfl, _, rfl, d, g, l, x, vx, ex.val g l, rfl, hd, rx, sok.1, fun r H1 sm1 _ hdv => ?_⟩
    exact one sm1 hdv (by rw [← efo]; rfl)
  | free x =>
    obtain ⟨q, xs, rfl, hq, _, _, rfl, rfl, vx, _, rfl, rx, rfl⟩ := hsv
    refine ⟨_, rfl, o, _, dx, _, _, rfl, ho, T.c_Point, T.n_Point_statement, rfl, ?_⟩
    refine ⟨_, rfl, q, _, _, _, rfl, rfl, SqT.of hq, at0, ?_⟩
    refine ⟨_, rfl, rfl, _, rfl, if_f (by decide +kernel) ?_⟩
    refine ⟨_, rfl, rfl, _, rfl, if_t (by decide +kernel) ?_⟩
    refine ⟨(by show 2 ≤ sizeLine; decide), fun z hz => ⟨z, rfl, ⟨_, SqT.of upd_same⟩, fun D hD => ?_⟩⟩
    have sz := same_upd (o := .tup [V.bl false, V.bl true]) hz
    have hzz : (upd H z (.tup [V.bl false, V.bl true])) z = some (.tup [V.bl false, V.bl true]) := upd_same
    obtain ⟨H1, hH1⟩ : ∃ H1, H1 = upd H z (.tup [V.bl false, V.bl true]) := ⟨_, rfl⟩
    rw [← hH1] at sz hzz hD
    refine lc_it (walk_tup (K := K) (a := z) (xs := [V.bl false, V.bl true])) (fun j H3 => Same H1 H3 ∧ ∃ ys : List V, H3 D = some (.lst ys) ∧ ys.length = j ∧ ∀ (i : Nat) y, ys[i]? = some y → ∃ x', (goals p g l (.free x))[i]? = some x' ∧ GlV H3 x' y) (by
      rw [← hH1]
      exact ⟨same_upd hD, [], upd_same, rfl, fun i y e => by simp at e⟩) (fun j H3 _ zz => SqT.of (zz.1 _ _ hzz)) ?_ ?_
    · rintro j y _ H3 hj ⟨sm3, ys, hD3, hyl, hys⟩ ⟨rfl, hyj⟩
      obtain ⟨bb, rfl, hbb⟩ : ∃ bb : Bool, y = V.bl bb ∧ (goals p g l (.free x))[j]? = some (fo, (x.set g l bb)) := by
        match j with
        | 0 => simp at hyj; exact ⟨false, hyj.symm, by rw [← efo]; rfl⟩
        | 1 => simp at hyj; exact ⟨true, hyj.symm, by rw [← efo]; rfl⟩
        | j + 2 => simp at hyj
      have s3 := sz.trans sm3
      refine ⟨rfl, ?_⟩
      dsimp only [tYes]
      refine iteT ?_
      have ho3 := s3 _ _ ho
      refine ⟨_, rfl, o, _, dx, _, _, rfl, ho3, T.c_Point, T.n_Point_follows, rfl, _, rfl, _, rfl, q, _, _, _, rfl, rfl, SqT.of (s3 _ _ hq), rfl, _, rfl, d, g, l, x, vx, bb, rfl, hd.same s3, Rp.at s3.tups _ _ rx, sok, fun r H4 sm4 _ hdv => ?_⟩
      refine ⟨(by show 2 ≤ sizeLine; decide), fun t ht => ⟨ys, same_upd ht _ _ (sm4 _ _ hD3), smallL (by rw [hyl]; simp at hj; omega), ((sm3.trans sm4).new ht).mut hD, ys ++ [.ref t], upd_same, by rw [List.length_append, hyl]; rfl, fun i y e => ?_⟩⟩
      have hDne : ∀ c u, (upd H4 t (.tup [V.int fo, V.ref r])) c = some u → c ≠ D → (upd (upd H4 t (.tup [V.int fo, V.ref r])) D (.lst (ys ++ [.ref t]))) c = some u := fun c u z n => by rw [upd_ne n]; exact z
      have hDD : (upd H4 t (.tup [V.int fo, V.ref r])) D = some (.lst ys) := same_upd ht _ _ (sm4 _ _ hD3)
      have glk : ∀ {x' : Goal} {y : V}, GlV (upd H4 t (.tup [V.int fo, V.ref r])) x' y → GlV (upd (upd H4 t (.tup [V.int fo, V.ref r])) D (.lst (ys ++ [.ref t]))) x' y := fun ⟨t', d', e1, e2, ga, la, e3, e4, e5⟩ => by
        have tt : ∀ c xs, (upd H4 t (.tup [V.int fo, V.ref r])) c = some (.tup xs) → (upd (upd H4 t (.tup [V.int fo, V.ref r])) D (.lst (ys ++ [.ref t]))) c = some (.tup xs) := fun c xs z => hDne c _ z fun w => by rw [w, hDD] at z; cases z
        exact ⟨t', d', e1, tt _ _ e2, ga, la, hDne _ _ e3 (fun w => by rw [w, hDD] at e3; cases e3), tt _ _ e4, tt _ _ e5⟩
      by_cases c : i < ys.length
      · rw [List.getElem?_append_left c] at e
        obtain ⟨x', e1, e2⟩ := hys i y e
        exact ⟨x', e1, glk ((e2.same sm4).same (same_upd ht))⟩
      · have ij : i = j := by
          have := (List.getElem?_eq_some_iff.mp e).1
          rw [List.length_append, List.length_singleton] at this
          omega
        subst ij
        rw [List.getElem?_append_right (by omega), hyl, Nat.sub_self] at e
        have e3 : V.ref t = y := by simpa using e
        rw [← e3]
        exact ⟨_, hbb, glk ⟨t, r, rfl, upd_same, hdv.same (same_upd ht)⟩⟩
    · rintro H3 ⟨sm3, ys, hD3, hyl, hys⟩
      exact k D H3 (sz.trans sm3) ⟨ys, hD3, hyl, hys⟩
  | pass x =>
    obtain ⟨q, xs, rfl, hq, _, _, rfl, rfl, _⟩ := hsv
    refine ⟨_, rfl, o, _, dx, _, _, rfl, ho, T.c_Point, T.n_Point_statement, rfl, ?_⟩
    refine ⟨_, rfl, q, _, _, _, rfl, rfl, SqT.of hq, at0, ?_⟩
    refine ⟨_, rfl, rfl, _, rfl, if_f (by decide +kernel) ?_⟩
    refine ⟨_, rfl, rfl, _, rfl, if_f (by decide +kernel) ?_⟩
    refine ⟨_, rfl, rfl, _, rfl, if_t (by decide +kernel) ?_⟩
    refine ⟨_, rfl, o, _, dx, _, _, rfl, ho, T.c_Point, T.n_Point_follows, rfl, _, rfl, ?_⟩
    exact one (Same.refl H) hd (by rw [← efo]; rfl)
  | ei x y =>
    obtain ⟨q, xs, rfl, hq, _, _, rfl, rfl, _⟩ := hsv
    refine ⟨_, rfl, o, _, dx, _, _, rfl, ho, T.c_Point, T.n_Point_statement, rfl, ?_⟩
    refine ⟨_, rfl, q, _, _, _, rfl, rfl, SqT.of hq, at0, ?_⟩
    refine ⟨_, rfl, rfl, _, rfl, if_f (by decide +kernel) ?_⟩
    refine ⟨_, rfl, rfl, _, rfl, if_f (by decide +kernel) ?_⟩
    refine ⟨_, rfl, rfl, _, rfl, if_f (by decide +kernel) ?_⟩
    refine ⟨_, rfl, rfl, _, rfl, if_t (by decide +kernel) ?_⟩
    refine ⟨_, rfl, o, _, dx, _, _, rfl, ho, T.c_Point, T.n_Point_entries, rfl, e, _, 0, _, rfl, rfl, SqL.of hent, at_ent (by rw [hlen]; simp [Sm.bods]), _, rfl, (by show 2 ≤ sizeLine; decide), fun t1 h1 => ?_⟩
    have ho' := same_upd (o := .tup [V.int (p.ent.getD 0 0 : Nat), V.ref d]) h1 _ _ ho
    have hent' := same_upd (o := .tup [V.int (p.ent.getD 0 0 : Nat), V.ref d]) h1 _ _ hent
    refine ⟨_, rfl, o, _, dx, _, _, rfl, ho', T.c_Point, T.n_Point_entries, rfl, e, _, 1, _, rfl, rfl, SqL.of hent', at_ent (by rw [hlen]; simp [Sm.bods]), _, rfl, (by show 2 ≤ sizeLine; decide), fun t2 h2 => ?_⟩
    exact two rfl t1 h1 t2 h2
  | rp y =>
    obtain ⟨q, xs, rfl, hq, _, _, rfl, rfl, _⟩ := hsv
    refine ⟨_, rfl, o, _, dx, _, _, rfl, ho, T.c_Point, T.n_Point_statement, rfl, ?_⟩
    refine ⟨_, rfl, q, _, _, _, rfl, rfl, SqT.of hq, at0, ?_⟩
    refine ⟨_, rfl, rfl, _, rfl, if_f (by decide +kernel) ?_⟩
    refine ⟨_, rfl, rfl, _, rfl, if_f (by decide +kernel) ?_⟩
    refine ⟨_, rfl, rfl, _, rfl, if_f (by decide +kernel) ?_⟩
    refine ⟨_, rfl, rfl, _, rfl, if_f (by decide +kernel) ?_⟩
    refine ⟨_, rfl, rfl, _, rfl, if_t (by decide +kernel) ?_⟩
    refine ⟨_, rfl, o, _, dx, _, _, rfl, ho, T.c_Point, T.n_Point_entries, rfl, e, _, 0, _, rfl, rfl, SqL.of hent, at_ent (by rw [hlen]; simp [Sm.bods]), _, rfl, (by show 2 ≤ sizeLine; decide), fun t1 h1 => ?_⟩
    have ho' := same_upd (o := .tup [V.int (p.ent.getD 0 0 : Nat), V.ref d]) h1 _ _ ho
    refine ⟨_, rfl, o, _, dx, _, _, rfl, ho', T.c_Point, T.n_Point_follows, rfl, _, rfl, (by show 2 ≤ sizeLine; decide), fun t2 h2 => ?_⟩
    exact two (by rw [← efo]; rfl) t1 h1 t2 h2
  | ite ex x y =>
    obtain ⟨q, xs, rfl, hq, _, _, rfl, rfl, ve, _, rfl, re, va, _, rfl, ra, vb, _, rfl, rb, rfl⟩ := hsv
    refine ⟨_, rfl, o, _, dx, _, _, rfl, ho, T.c_Point, T.n_Point_statement, rfl, ?_⟩
    refine ⟨_, rfl, q, _, _, _, rfl, rfl, SqT.of hq, at0, ?_⟩
    refine ⟨_, rfl, rfl, _, rfl, if_f (by decide +kernel) ?_⟩
    refine ⟨_, rfl, rfl, _, rfl, if_f (by decide +kernel) ?_⟩
    refine ⟨_, rfl, rfl, _, rfl, if_f (by decide +kernel) ?_⟩
    refine ⟨_, rfl, rfl, _, rfl, if_f (by decide +kernel) ?_⟩
    refine ⟨_, rfl, rfl, _, rfl, if_f (by decide +kernel) ?_⟩
    refine ⟨_, rfl, rfl, _, rfl, if_t (by decide +kernel) ?_⟩
    refine ⟨_, rfl, o, _, dx, _, _, rfl, ho, T.c_Point, T.n_Point_entries, rfl, ?_⟩
    refine ⟨_, rfl, q, _, _, _, rfl, rfl, SqT.of hq, rfl, _, rfl, ex, ve, d, g, l, rfl, re, hd, sok.1.1, Nat.lt_succ_of_le sok.1.2, _, rfl, ?_⟩
    refine ite2 (fun c => ?_) (fun c => ?_)
    · refine ⟨e, _, 0, _, rfl, rfl, SqL.of hent, at_ent (by rw [hlen]; simp [Sm.bods]), _, rfl, ?_⟩
      exact one (Same.refl H) hd (by simp only [goals]; rw [if_pos c]; rfl)
    · refine ⟨e, _, 1, _, rfl, rfl, SqL.of hent, at_ent (by rw [hlen]; simp [Sm.bods]), _, rfl, ?_⟩
      exact one (Same.refl H) hd (by simp only [goals]; rw [if_neg c]; rfl)
  | wh ex x =>
    obtain ⟨q, xs, rfl, hq, _, _, rfl, rfl, ve, _, rfl, re, va, _, rfl, ra, rfl⟩ := hsv
    refine ⟨_, rfl, o, _, dx, _, _, rfl, ho, T.c_Point, T.n_Point_statement, rfl, ?_⟩
    refine ⟨_, rfl, q, _, _, _, rfl, rfl, SqT.of hq, at0, ?_⟩
    refine ⟨_, rfl, rfl, _, rfl, if_f (by decide +kernel) ?_⟩
    refine ⟨_, rfl, rfl, _, rfl, if_f (by decide +kernel) ?_⟩
    refine ⟨_, rfl, rfl, _, rfl, if_f (by decide +kernel) ?_⟩
    refine ⟨_, rfl, rfl, _, rfl, if_f (by decide +kernel) ?_⟩
    refine ⟨_, rfl, rfl, _, rfl, if_f (by decide +kernel) ?_⟩
    refine ⟨_, rfl, rfl, _, rfl, if_f (by decide +kernel) ?_⟩
    refine ⟨_, rfl, q, _, _, _, rfl, rfl, SqT.of hq, rfl, _, rfl, ex, ve, d, g, l, rfl, re, hd, sok.1.1, Nat.lt_succ_of_le sok.1.2, _, rfl, ?_⟩
    refine ite2 (fun c => ?_) (fun c => ?_)
    · refine ⟨_, rfl, o, _, dx, _, _, rfl, ho, T.c_Point, T.n_Point_entries, rfl, e, _, 0, _, rfl, rfl, SqL.of hent, at_ent (by rw [hlen]; simp [Sm.bods]), _, rfl, ?_⟩
      exact one (Same.refl H) hd (by simp only [goals]; rw [if_pos c]; rfl)
    · refine ⟨_, rfl, o, _, dx, _, _, rfl, ho, T.c_Point, T.n_Point_follows, rfl, _, rfl, ?_⟩
      exact one (Same.refl H) hd (by simp only [goals]; rw [if_neg c, ← efo])
  | call x => exact absurd rfl h6
  | ret => exact absurd rfl h7
def sp_aft (K : PySem.W.Frag) : Sp := fun vs H Q _ => ∃ (a ga : Addr) (v : V) (g : List Bool) (f : Fr) (G : Prog), vs = [.ref a, .ref ga, v] ∧ WkAt K H a G ∧ G.Ok ∧ H ga = some (.tup (g.map .bl)) ∧ Rp H (frD f) v ∧ g.length = G.gc ∧ FrOk G f ∧
  ∀ (r : Addr) (xs : List V) (H' : Hp), Same H H' → H' r = some (.lst xs) → RpAll H' ((aft G g f).map sitD) xs → Q (.ref r) H'
abbrev n_Walker_after : List Str := ["self", "global_values", "frame", "place", "local_values", "point", "found", "goal", "values"]
theorem sc_Walker_after : FnScope n_Walker_after ["self", "global_values", "frame"] (defScope s_Walker_after) := ⟨rfl, rfl, rfl, by decide +kernel, rfl, by decide +kernel, by decide +kernel⟩
theorem ok_aft (T : Env K mg) (c_Walker_entry_frame : Met P w K mg base 2 (He.ga K "Walker") "entry_frame" (sp_entf K) []) (c_Walker_goals : Met P w K mg base 4 (He.ga K "Walker") "goals" (sp_goals K) []) : Met P w K mg base 5 (He.ga K "Walker") "after" (sp_aft K) [] := by
  obtain ⟨fd, F⟩ := T.F_Walker_after
  refine met_by F T.c_Walker T.m_Walker_after (F.bindsN fun _ _ _ _ _ _ us hl => match us, hl with | [_, _, _], _ => rfl) sc_Walker_after (fun vs H Q E h => ?_) (fun cdv A outer s H vs Q E hr h => ?_)
  · obtain ⟨a, ga, v, g, f, G, rfl, _⟩ := h
    rfl
  obtain ⟨a, ga, v, g, f, G, rfl, hw, ok, hga, hv, hg, ⟨p, hp, hl⟩, k⟩ := h
  obtain ⟨dxw, pg, mp, ha, hpg, dm, lp, le, as, m1, m2, m3, m4, m5⟩ := id hw
  obtain ⟨fa, _, rfl, hfa, _, _, rfl, rfl, lv, _, rfl, hlv, rfl⟩ := hv
  obtain ⟨la, rfl, hla⟩ := Rp.boolsT.mp hlv
  have po := ok.pt hp
  obtain ⟨y, hy, dx, sv, ho, hsv, hent⟩ := m5 f.1 p hp
  rw [Nat.zero_add] at hy
  refine ⟨_, pss_cons (ps_asg (pv 2) (pg_tup (by rfl) (pgs_cons (pg_name (i := 3) sc_Walker_after.nd rfl (Or.inl rfl)) (pgs_cons (pg_name (i := 4) sc_Walker_after.nd rfl (Or.inl rfl)) pgs_nil))))
      (pss_cons (ps_set (i := 5) sc_Walker_after.nd rfl (Or.inl rfl) (pe_ix ix_list (pe_fld (pe_fld (pv 0) rfl) rfl) (pv 3) (fun _ _ => rfl)))
      (pss_cons (ps_if (PW.pt (pw_or (pt_cmpR op_isN (pe_fld (pv 5) rfl) pe_non (nomark _)) (pw_or1 (pt_cmpR op_eq (pe_ix ix_tup (pe_fld (pv 5) rfl) pe_int (fun _ _ => rfl)) pe_str (nomark _)))))
        (pss_one (ps_ret (pe_lst (pa_cons (pe_tup (pa_cons (pv 1) (pa_cons (pe_tup pa_nil) pa_nil))) pa_nil))))
        pss_nil)
      (pss_cons (ps_if (pt_cmpR op_eq (pe_ix ix_tup (pe_fld (pv 5) rfl) pe_int (fun _ _ => rfl)) pe_str (nomark _))
        (pss_one (ps_ret (pe_lst (pa_cons (pe_tup (pa_cons (pv 1) (pa_cons (pe_tup (pa_cons (pe_mt c_Walker_entry_frame hr (by omega) (pv 0) (pa_cons (pe_ix ix_tup (pe_fld (pv 5) rfl) pe_int (fun _ _ => rfl)) pa_nil)) (pa_cons (pe_tup (pa_cons (pe_fld (pv 5) rfl) (pa_cons (pv 4) pa_nil))) pa_nil))) pa_nil))) pa_nil))))
        pss_nil)
      (pss_cons (ps_set (i := 6) sc_Walker_after.nd rfl (Or.inl rfl) (pe_lst pa_nil))
      (pss_cons (ps_for PassesOwn.never rfl (pi_list (pe_mt c_Walker_goals hr (by omega) (pv 0) (pa_cons (pv 5) (pa_cons (pe_disp (pps_cons pe_str (pv 1) (pps_cons pe_str (pv 4) pps_nil)) (by rfl) (by rfl) (fun z => by cases z) (by decide)) pa_nil)))) (pg_tup (by rfl) (pgs_cons (pg_name (i := 7) sc_Walker_after.nd rfl (Or.inl rfl)) (pgs_cons (pg_name (i := 8) sc_Walker_after.nd rfl (Or.inl rfl)) pgs_nil)))
        (pss_one (ps_expr (pe_bm PySem.F.plainAttrs_list PySem.F.slot_list_append PySem.F.type_list_append mt_append (pv 6) (pa_cons (pe_tup (pa_cons (pe_dget (hu_of hr) (pv 8) pe_str (fun _ _ => rfl)) (pa_cons (pe_tup (pa_cons (pe_tup (pa_cons (pv 7) (pa_cons (pe_dget (hu_of hr) (pv 8) pe_str (fun _ _ => rfl)) pa_nil))) pa_nil)) pa_nil))) pa_nil)))))
      (pss_one (ps_ret (pv 6)))))))), ?_⟩
  refine ⟨_, rfl, fa, _, rfl, SqT.of hfa, rfl, _, _, rfl, _, _, rfl, rfl, ?_⟩
  refine ⟨_, rfl, a, _, dxw, _, _, rfl, ha, T.c_Walker, T.n_Walker_map, rfl, mp, _, dm, _, _, rfl, m1, T.c_Points, T.n_Points_points, rfl, _, rfl, lp, _, f.1, _, rfl, rfl, SqL.of m2, atI_nat (by rw [List.getElem?_map, hy]; rfl), ?_⟩
  have eaft : aft G g f = aftP G p g f.2 := by
    unfold aft
    rw [hp]
  rw [eaft] at k
  have out : aftP G p g f.2 = [(g, [])] → ∀ z, H z = none → ([V.ref ga, V.ref z] : List V).length ≤ sizeLine ∧ ∀ t, (upd H z (.tup [])) t = none → ([V.ref t] : List V).length ≤ sizeLine ∧ ∀ r, (upd (upd H z (.tup [])) t (.tup [V.ref ga, V.ref z])) r = none → Q (.ref r) (upd (upd (upd H z (.tup [])) t (.tup [V.ref ga, V.ref z])) r (.lst [V.ref t])) := by
    intro e z hz
    refine ⟨(by show 2 ≤ sizeLine; decide), fun t ht => ⟨(by show 1 ≤ sizeLine; decide), fun r hr2 => ?_⟩⟩
    refine k r _ _ (((same_upd hz).new ht).new hr2) upd_same ?_
    rw [e]
    refine .one (Rp.at (same_upd hr2).tups _ _ (Rp.new ht (.cons ?_ (.one ?_))))
    · exact Rp.boolsT.mpr ⟨ga, rfl, same_upd hz _ _ hga⟩
    · exact ⟨z, [], rfl, upd_same, rfl⟩
  cases hs : p.stm with
  | none =>
    rw [hs] at hsv
    have e0 : sv = .non := hsv
    subst e0
    refine ⟨_, rfl, y.1, _, dx, _, _, rfl, ho, T.c_Point, T.n_Point_statement, rfl, rfl, _, rfl, if_t rfl (iteT ?_)⟩
    exact ⟨_, rfl, Nat.zero_le _, out (by unfold aftP; rw [hs])⟩
  | some st =>
  rw [hs] at hsv
  obtain ⟨rest, hrest⟩ := st.d_tag
  have hsv0 : Rp H st.d sv := hsv
  have hst : ∃ (su : Addr) (vs : List V), sv = .ref su ∧ H su = some (.tup (.str st.tag :: vs)) ∧ RpAll H rest vs := by
    rw [hrest] at hsv0
    obtain ⟨u, vs, e, hu, v0, r0, e2, e3, e4⟩ := hsv0
    exact ⟨u, r0, e, by rw [hu, e2, (show v0 = V.str st.tag from e3)], e4⟩
  obtain ⟨su, vs, rfl, hsu, hvs⟩ := hst
  obtain ⟨sok, sdp, fo, hfo, hfop, hentp, hlen⟩ := po.stm st hs
  have ho0 := ho
  rw [hfo] at ho
  have efo : p.follow = fo := by simp [Pt.follow, hfo]
  refine ⟨_, rfl, y.1, _, dx, _, _, rfl, ho, T.c_Point, T.n_Point_statement, rfl, rfl, _, rfl, if_f rfl ?_⟩
  refine ⟨_, rfl, y.1, _, dx, _, _, rfl, ho, T.c_Point, T.n_Point_statement, rfl, su, _, _, _, rfl, rfl, SqT.of hsu, at0, rfl, _, rfl, ?_⟩
  by_cases isret : st = .ret
  · subst isret
    refine if_t (by decide +kernel) ?_
    exact ⟨_, rfl, Nat.zero_le _, out (by unfold aftP; rw [hs])⟩
  refine if_f (by rw [dtag_return]; cases st <;> first | rfl | exact absurd rfl isret) ?_
  refine ⟨_, rfl, y.1, _, dx, _, _, rfl, ho, T.c_Point, T.n_Point_statement, rfl, su, _, _, _, rfl, rfl, SqT.of hsu, at0, rfl, _, rfl, ?_⟩
  by_cases iscall : ∃ c, st = .call c
  · obtain ⟨c, rfl⟩ := iscall
    refine if_t (by rw [dtag_call]; rfl) ?_
    have ec : rest = [.int c] := by
      have : (Sm.call c).d = .tuple [.str "call", .int c] := by rw [Sm.d]
      rw [this] at hrest
      injection hrest with h1
      injection h1 with _ h2
      exact h2.symm
    subst ec
    obtain ⟨cv, _, rfl, rfl, rfl⟩ := hvs
    refine ⟨_, rfl, _, rfl, a, dxw, _, rfl, ha, rfl, _, rfl, y.1, _, dx, _, _, rfl, ho, T.c_Point, T.n_Point_statement, rfl, su, _, _, _, rfl, rfl, SqT.of hsu, rfl, a, G, c, rfl, hw, ok, sok, fun ev H1 s1 hev => ?_⟩
    refine ⟨_, rfl, y.1, _, dx, _, _, rfl, s1 _ _ ho, T.c_Point, T.n_Point_follows, rfl, _, rfl, (by show 2 ≤ sizeLine; decide), fun t1 h1 => ⟨(by show 2 ≤ sizeLine; decide), fun t2 h2 => ⟨(by show 2 ≤ sizeLine; decide), fun t3 h3 => ⟨(by show 1 ≤ sizeLine; decide), fun r hr2 => ?_⟩⟩⟩⟩
    refine k r _ _ ((((s1.new h1).new h2).new h3).new hr2) upd_same ?_
    have e : aftP G p g f.2 = [(g, [G.entry c, (fo, f.2)])] := by unfold aftP; rw [hs, ← efo]
    rw [e]
    refine .one (Rp.at (same_upd hr2).tups _ _ (Rp.new h3 (.cons ?_ (.one (Rp.new h2 (.cons ?_ (.one ?_)))))))
    · exact Rp.boolsT.mpr ⟨ga, rfl, ((s1.new h1).new h2) _ _ hga⟩
    · exact Rp.at (same_upd h1).tups _ _ hev
    · exact Rp.new h1 (.cons rfl (.one (Rp.boolsT.mpr ⟨la, rfl, s1 _ _ hla⟩)))
  refine if_f (by rw [dtag_call]; cases st <;> first | rfl | exact absurd ⟨_, rfl⟩ iscall) ?_
  have t6 : st.tagI ≠ 6 := fun z => by
    cases st <;> simp [Sm.tagI] at z
    exact iscall ⟨_, rfl⟩
  have t7 : st.tagI ≠ 7 := fun z => by
    cases st <;> simp [Sm.tagI] at z
    exact isret rfl
  have egl : aftP G p g f.2 = (goals p g f.2 st).map fun x => (x.2.1, [(x.1, x.2.2)]) := by
    unfold aftP
    rw [hs]
    cases st <;> first | rfl | exact absurd rfl isret | exact absurd ⟨_, rfl⟩ iscall
  -- the goals
  refine ⟨Nat.zero_le _, fun fd hfd => ?_⟩
  have sf := same_upd (o := .lst []) hfd
  have hfd1 : (upd H fd (.lst [])) fd = some (.lst []) := upd_same
  generalize upd H fd (.lst []) = H1 at *
  refine ⟨_, rfl, a, dxw, _, rfl, sf _ _ ha, rfl, _, rfl, fun d hd => ⟨_, rfl, _, rfl, upd_same, dv2 (.ref ga) (.ref la), rfl, (by show 2 ≤ 15; decide), ?_⟩⟩
  have e0 : mergeK [] (dv2 (.ref ga) (.ref la)) = dv2 (.ref ga) (.ref la) := by simp [mergeK, putK, ngS]
  rw [e0, upd_upd]
  have s2 := sf.new (o := .dK (dv2 (.ref ga) (.ref la))) hd
  have hd2 : (upd H1 d (.dK (dv2 (.ref ga) (.ref la)))) d = some (.dK (dv2 (.ref ga) (.ref la))) := upd_same
  have hfd2 := same_upd (o := .dK (dv2 (.ref ga) (.ref la))) hd _ _ hfd1
  generalize upd H1 d (.dK (dv2 (.ref ga) (.ref la))) = H2 at *
  have po2 : PO K H2 y.1 y.2 p := PO.same ⟨dx, .ref su, ho0, by rw [hs]; exact hsv, hent⟩ s2
  refine ⟨a, y.1, y.2, d, p, st, g, f.2, G, rfl, po2, hs, po, ⟨ga, la, hd2, s2 _ _ hga, s2 _ _ hla⟩, hg, hl, t6, t7, fun r H3 s3 hgl => ?_⟩
  obtain ⟨ys, hys, hyl, hyi⟩ := id hgl
  have s03 := s2.trans s3
  have rfd : ¬ r = fd := fun z => by
    have e1 := s3 _ _ hfd2
    rw [← z, hys] at e1
    cases e1
    have : (goals p g f.2 st).length ≠ 0 := by cases st <;> simp [goals]; exact absurd ⟨_, rfl⟩ iscall; exact absurd rfl isret
    exact this hyl.symm
  refine ⟨r, rfl, ⟨_, SqL.of hys⟩, for_it (walk_list (K := K) (a := r) (xs := ys)) (fun i σ H4 => ∃ (x7 x8 : Option V) (xs : List V), σ = [some (.ref a), some (.ref ga), some (.ref fa), some (.int f.1), some (.ref la), some (.ref y.1), some (.ref fd), x7, x8] ∧ SameB (· = fd) H3 H4 ∧ Same H H4 ∧ H4 fd = some (.lst xs) ∧ xs.length = i ∧ RpAll H4 (((goals p g f.2 st).take i).map fun x => sitD (x.2.1, [(x.1, x.2.2)])) xs)
    ⟨_, _, [], rfl, fun _ _ e _ => e, s03, s3 _ _ hfd2, rfl, by rw [List.take_zero]; rfl⟩ (fun i σ H4 _ ⟨_, _, _, _, z, _⟩ => SqL.of (z _ _ hys rfd)) ?_ ?_⟩
  · rintro i v σ _ H4 hi ⟨x7, x8, xs, rfl, sb, s04, hfd4, hxl, hxs⟩ ⟨rfl, hvi⟩
    obtain ⟨x, hx, t, d', rfl, ht, ga', la', hd', hga', hla'⟩ := hyi i v hvi
    have k4 : ∀ {c : Addr} {xs : List V}, H3 c = some (.tup xs) → H4 c = some (.tup xs) := fun e => sb _ _ e fun z => by
      rw [show _ = fd from z, s3 _ _ hfd2] at e
      cases e
    have kd : H4 d' = some (.dK (dvs2 ga' la')) := sb _ _ hd' fun z => by
      rw [show _ = fd from z, s3 _ _ hfd2] at hd'
      cases hd'
    have gl : (goals p g f.2 st).length ≤ 2 := by cases st <;> simp [goals]
    refine ⟨t, _, rfl, SqT.of (k4 ht), rfl, _, _, rfl, _, _, rfl, rfl, ?_⟩
    refine ⟨_, rfl, .inl ⟨rfl, _, SqL.of hfd4⟩, ?_⟩
    refine ⟨_, rfl, d', _, rfl, (by rw [← dvs_g ga' la']; exact DGet.k (k := Sum.inr "global") kd), _, rfl, _, rfl, d', _, rfl, (by rw [← dvs_l ga' la']; exact DGet.k (k := Sum.inr "local") kd), (by show 2 ≤ sizeLine; decide), fun t1 h1 => ⟨(by show 1 ≤ sizeLine; decide), fun t2 h2 => ⟨(by show 2 ≤ sizeLine; decide), fun t3 h3 => ?_⟩⟩⟩
    have u3 := ((same_upd (o := .tup [V.int x.1, V.ref la']) h1).new (o := .tup [V.ref t1]) h2).new (o := .tup [V.ref ga', V.ref t2]) h3
    have r3 : Rp (upd (upd (upd H4 t1 (.tup [V.int x.1, V.ref la'])) t2 (.tup [V.ref t1])) t3 (.tup [V.ref ga', V.ref t2])) (sitD (x.2.1, [(x.1, x.2.2)])) (.ref t3) := Rp.new h3 (.cons (Rp.boolsT.mpr ⟨ga', rfl, same_upd h2 _ _ (same_upd h1 _ _ (k4 hga'))⟩) (.one (Rp.new h2 (.one (Rp.new h1 (.cons rfl (.one (Rp.boolsT.mpr ⟨la', rfl, k4 hla'⟩))))))))
    have hfd5 := u3 _ _ hfd4
    have s5 := s04.trans u3
    have sb5 : SameB (· = fd) H3 (upd (upd (upd H4 t1 (.tup [V.int x.1, V.ref la'])) t2 (.tup [V.ref t1])) t3 (.tup [V.ref ga', V.ref t2])) := fun c u e n => u3 _ _ (sb c u e n)
    have hxs5 := RpAll.at u3.tups _ _ hxs
    generalize upd (upd (upd H4 t1 (.tup [V.int x.1, V.ref la'])) t2 (.tup [V.ref t1])) t3 (.tup [V.ref ga', V.ref t2]) = H5 at *
    have tp : Tups H5 (upd H5 fd (.lst (xs ++ [V.ref t3]))) := tups_lst hfd5
    refine ⟨fd, _, _, rfl, rfl, hfd5, smallL (by omega), _, _, xs ++ [.ref t3], rfl, sb5.upd rfl, s5.mut hfd, upd_same, by rw [List.length_append, hxl]; rfl, ?_⟩
    rw [List.take_add_one, hx, List.map_append]
    exact RpAll.at tp _ _ (hxs5.snoc r3)
  · rintro σ H4 ⟨x7, x8, xs, rfl, sb, s04, hfd4, hxl, hxs⟩
    rw [hyl, List.take_length] at hxs
    refine ⟨_, rfl, k fd xs H4 s04 hfd4 ?_⟩
    rw [egl, List.map_map]
    exact hxs
end
end Pr
/-! The program's coder, steps. -/
namespace Pr
open PySem PySem.Spec PyProof.Rows L2 RT
open C8 (Cal Met Mak pe_c pe_mk pe_mt pe_mt0)
/-- two lists, item by item -/
def AllV {α : Type} (R : α → V → Prop) (ds : List α) (vs : List V) : Prop := vs.length = ds.length ∧ ∀ (i : Nat) (v : V), vs[i]? = some v → ∃ d, ds[i]? = some d ∧ R d v
theorem AllV.nil {α : Type} {R : α → V → Prop} : AllV R [] [] := ⟨rfl, fun i v e => by simp at e⟩
theorem AllV.imp {α : Type} {R R' : α → V → Prop} {ds : List α} {vs : List V} (h : AllV R ds vs) (f : ∀ d v, R d v → R' d v) : AllV R' ds vs := ⟨h.1, fun i v e => let ⟨d, a, b⟩ := h.2 i v e; ⟨d, a, f _ _ b⟩⟩
theorem AllV.app {α : Type} {R : α → V → Prop} {ds es : List α} {vs us : List V} (h : AllV R ds vs) (g : AllV R es us) : AllV R (ds ++ es) (vs ++ us) := ⟨by rw [List.length_append, List.length_append, h.1, g.1], fun i v e => by
  by_cases c : i < vs.length
  · rw [List.getElem?_append_left c] at e
    obtain ⟨d, a, b⟩ := h.2 i v e
    exact ⟨d, by rw [List.getElem?_append_left (by rw [← h.1]; exact c)]; exact a, b⟩
  · rw [List.getElem?_append_right (by omega)] at e
    obtain ⟨d, a, b⟩ := g.2 _ v e
    exact ⟨d, by rw [List.getElem?_append_right (by rw [← h.1]; omega), ← h.1]; exact a, b⟩⟩
theorem AllV.one {α : Type} {R : α → V → Prop} {d : α} {v : V} (h : R d v) : AllV R [d] [v] := ⟨rfl, fun i u e => by
  cases i with
  | zero => exact ⟨d, rfl, by cases (show some v = some u from e); exact h⟩
  | succ i => simp at e⟩
theorem AllV.snoc {α : Type} {R : α → V → Prop} {ds : List α} {vs : List V} {d : α} {v : V} (h : AllV R ds vs) (e : R d v) : AllV R (ds ++ [d]) (vs ++ [v]) := h.app (.one e)
theorem AllV.get {α : Type} {R : α → V → Prop} {ds : List α} {vs : List V} {i : Nat} {d : α} (h : AllV R ds vs) (e : ds[i]? = some d) : ∃ v, vs[i]? = some v ∧ R d v := by
  have hi := (List.getElem?_eq_some_iff.mp e).1
  have hv : vs[i]? = some (vs[i]'(by rw [h.1]; exact hi)) := List.getElem?_eq_getElem _
  obtain ⟨d', a, b⟩ := h.2 i _ hv
  rw [e] at a
  cases a
  exact ⟨_, hv, b⟩
/-- all stands but instances that are not done -/
def Kpt (H H' : Hp) : Prop := ∀ c u, H c = some u → (∀ C d fs, u = .ins C d fs → 2 ≤ fs.length) → H' c = some u
theorem Kpt.tups {H H' : Hp} (k : Kpt H H') : Tups H H' := fun c _ e => k c _ e fun _ _ _ z => by cases z
theorem PgAt.kp {K : PySem.W.Frag} {H H' : Hp} {a : Addr} {G : Prog} (h : PgAt K H a G) (k : Kpt H H') : PgAt K H' a G := by
  obtain ⟨dx, t, xs, h1, h2, h3⟩ := h
  exact ⟨dx, t, xs, k _ _ h1 fun _ _ _ z => (by cases z; simp), k.tups _ _ h2, RpAll.at k.tups _ _ h3⟩
theorem PO.kp {K : PySem.W.Frag} {H H' : Hp} {o e : Addr} {p : Pt} (h : PO K H o e p) (k : Kpt H H') : PO K H' o e p := by
  obtain ⟨dx, sv, h1, h2, h3⟩ := h
  exact ⟨dx, sv, k _ _ h1 fun _ _ _ z => (by cases z; simp), h2.at k.tups, k _ _ h3 fun _ _ _ z => (by cases z)⟩
theorem MpAt.kp {K : PySem.W.Frag} {H H' : Hp} {a : Addr} {G : Prog} (h : MpAt K H a G) (k : Kpt H H') : MpAt K H' a G := by
  obtain ⟨dm, lp, le, as, m1, m2, m3, m4, m5⟩ := h
  refine ⟨dm, lp, le, as, k _ _ m1 fun _ _ _ z => (by cases z; simp), k _ _ m2 fun _ _ _ z => (by cases z), k _ _ m3 fun _ _ _ z => (by cases z), m4, fun j p e => ?_⟩
  obtain ⟨y, z1, z2⟩ := m5 j p e
  exact ⟨y, z1, z2.kp k⟩
theorem WkAt.kp {K : PySem.W.Frag} {H H' : Hp} {a : Addr} {G : Prog} (h : WkAt K H a G) (k : Kpt H H') : WkAt K H' a G := by
  obtain ⟨dx, pg, mp, h1, h2, h3⟩ := h
  exact ⟨dx, pg, mp, k _ _ h1 fun _ _ _ z => (by cases z; simp), h2.kp k, h3.kp k⟩
theorem frs_snoc (G : Prog) : ∀ (ps : List Pt) (pl : Nat) (p : Pt), frs G pl (ps ++ [p]) = frs G pl ps ++ ((List.range (2 ^ G.lc p.proc)).map fun n => (pl + ps.length, vals n (G.lc p.proc)))
  | [], pl, p => by simp [frs]
  | a :: r, pl, p => by
    have e : pl + 1 + r.length = pl + (a :: r).length := by rw [List.length_cons]; omega
    simp only [List.cons_append, frs, frs_snoc G r (pl + 1) p, e, List.append_assoc]
theorem fsts_snoc (G : Prog) : ∀ (ps : List Pt) (a pl : Nat) (p : Pt), fsts G a (ps ++ [p]) = fsts G a ps ++ [a + (frs G pl ps).length]
  | [], a, pl, p => by simp [fsts, frs]
  | q :: r, a, pl, p => by
    simp only [List.cons_append, fsts, fsts_snoc G r (a + 2 ^ G.lc q.proc) (pl + 1) p, frs, List.length_append, List.length_map, List.length_range, Nat.add_assoc]
theorem frs_le {G : Prog} (h : ∀ k, G.lc k ≤ 1) : ∀ (ps : List Pt) (pl : Nat), (frs G pl ps).length ≤ 2 * ps.length
  | [], pl => by simp [frs]
  | p :: r, pl => by
    simp only [frs, List.length_append, List.length_map, List.length_range, List.length_cons]
    have h1 := frs_le h r (pl + 1)
    have h2 : 2 ^ G.lc p.proc ≤ 2 ^ 1 := Nat.pow_le_pow_right (by decide) (h p.proc)
    omega
theorem Prog.Ok.lc1 {G : Prog} (ok : G.Ok) (k : Nat) : G.lc k ≤ 1 := by
  unfold Prog.lc
  cases e : G.procs[k]? with
  | none => simp
  | some p => simpa using ok.lc p (List.mem_of_getElem? e)
theorem Prog.Ok.pts10 {G : Prog} (ok : G.Ok) : G.pts.length ≤ 10 := by
  unfold Prog.pts
  rw [ptP_len2]
  exact ok.psz
theorem Prog.Ok.frs20 {G : Prog} (ok : G.Ok) : G.frames.length ≤ 20 := by
  have h1 := frs_le ok.lc1 G.pts 0
  have h2 := ok.pts10
  unfold Prog.frames
  omega
theorem fsts_len (G : Prog) : ∀ (ps : List Pt) (a : Nat), (fsts G a ps).length = ps.length
  | [], _ => rfl
  | _ :: r, a => by simp [fsts, fsts_len G r]
section
variable {P : Program} {w : World} {K : PySem.W.Frag} {mg : Str → Option Value} {base : Heap}
def sp_begin (K : PySem.W.Frag) : Sp := fun vs H Q _ => ∃ (pg : Addr) (G : Prog), vs = [.ref pg] ∧ PgAt K H pg G ∧ G.Ok ∧ ∀ (v : V) (H' : Hp), Same H H' → Rp H' (sitD G.begin) v → Q v H'
abbrev n_begin : List Str := ["program", "walker"]
theorem sc_begin : FnScope n_begin ["program"] (defScope s_begin) := ⟨rfl, rfl, rfl, by decide +kernel, rfl, by decide +kernel, by decide +kernel⟩
theorem ok_begin (T : Env K mg) (c_Walker : Mak P w K mg base 9 "Walker" (He.ga K "Walker") (sp_walker K) []) (c_Walker_entry_frame : Met P w K mg base 2 (He.ga K "Walker") "entry_frame" (sp_entf K) []) (c_no_values : Cal P w K mg base 1 "no_values" sp_nov []) : Cal P w K mg base 11 "begin" (sp_begin K) [] := by
  obtain ⟨fd, F⟩ := T.F_begin
  refine cal_by F T.g_begin (F.bindsN fun _ _ _ _ _ _ us hl => match us, hl with | [_], _ => rfl) sc_begin (fun vs H Q E h => ?_) (fun cdv A outer s H vs Q E hr h => ?_)
  · obtain ⟨pg, G, rfl, _⟩ := h
    rfl
  obtain ⟨pg, G, rfl, hpg, ok, k⟩ := h
  refine ⟨_, pss_cons (ps_set (i := 1) sc_begin.nd rfl (Or.inl rfl) (pe_mk c_Walker hr (by omega) rfl (pa_cons (pv 0) pa_nil)))
      (pss_one (ps_ret (pe_tup (pa_cons (pe_c c_no_values hr (by omega) rfl (pa_cons (pe_fld (pv 0) rfl) pa_nil)) (pa_cons (pe_tup (pa_cons (pe_mt c_Walker_entry_frame hr (by omega) (pv 1) (pa_cons pe_int pa_nil)) pa_nil)) pa_nil))))), ?_⟩
  refine ⟨_, rfl, fun x dx h1 h2 h3 => ⟨x, dx, pg, G, H, rfl, made h1 h2, h1, upd_same, hpg, ok, fun H1 s1 hw => ⟨rfl, ?_⟩⟩⟩
  obtain ⟨dpg, tt, xs, p1, p2, p3⟩ := hpg.same s1
  have gc := ok.gc
  refine ⟨_, rfl, pg, _, dpg, _, _, rfl, p1, T.c_Program, T.n_Program_global_count, rfl, G.gc, rfl, by omega, fun ga H2 s2 _ hga => ?_⟩
  obtain ⟨dw, _, _, w1, _⟩ := id (hw.same s2)
  refine ⟨_, rfl, x, dw, _, rfl, w1, rfl, x, G, 0, rfl, hw.same s2, ok, ok.n1, fun v H3 s3 hv => ⟨(by show 1 ≤ sizeLine; decide), fun t1 h1 => ⟨(by show 2 ≤ sizeLine; decide), fun t2 h2 => ?_⟩⟩⟩
  refine k _ _ (((s1.trans s2).trans s3).new h1 |>.new h2) (Rp.new h2 (.cons ?_ (.one (Rp.new h1 (.one hv)))))
  exact Rp.boolsT.mpr ⟨ga, rfl, same_upd h1 _ _ (s3 _ _ hga)⟩
/-- the coder -/
def CdAt (K : PySem.W.Frag) (H : Hp) (a : Addr) (G : Prog) : Prop := ∃ (dx pg wk lf lr : Addr) (xs : List V), H a = some (.ins (He.ga K "Coder") dx [("program", .ref pg), ("walker", .ref wk), ("firsts", .ref lf), ("frames", .ref lr)]) ∧ PgAt K H pg G ∧ WkAt K H wk G ∧
  H lf = some (.lst (G.firsts.map fun n : Nat => V.int (n : Int))) ∧ H lr = some (.lst xs) ∧ RpAll H (G.frames.map frD) xs
theorem CdAt.same {H H' : Hp} {a : Addr} {G : Prog} (h : CdAt K H a G) (e : Same H H') : CdAt K H' a G :=
  let ⟨dx, pg, wk, lf, lr, xs, h1, h2, h3, h4, h5, h6⟩ := h; ⟨dx, pg, wk, lf, lr, xs, e _ _ h1, h2.same e, h3.same e, e _ _ h4, e _ _ h5, RpAll.at e.tups _ _ h6⟩
def sp_coder (K : PySem.W.Frag) : Sp := fun vs H Q _ => ∃ (x dx pg : Addr) (G : Prog) (H0 : Hp), vs = [.ref x, .ref pg] ∧ Same H0 H ∧ H0 x = none ∧ H x = some (.ins (He.ga K "Coder") dx []) ∧ PgAt K H0 pg G ∧ G.Ok ∧ ∀ H', Same H0 H' → CdAt K H' x G → Q .non H'
abbrev n_Coder___init__ : List Str := ["self", "program", "place", "point", "count", "number"]
theorem sc_Coder___init__ : FnScope n_Coder___init__ ["self", "program"] (defScope s_Coder___init__) := ⟨rfl, rfl, rfl, by decide +kernel, rfl, by decide +kernel, by decide +kernel⟩
theorem ok_coder (T : Env K mg) (c_Walker : Mak P w K mg base 9 "Walker" (He.ga K "Walker") (sp_walker K) []) (c_twos : Cal P w K mg base 1 "twos" sp_twos []) (c_values_of : Cal P w K mg base 1 "values_of" sp_vals []) : Mak P w K mg base 11 "Coder" (He.ga K "Coder") (sp_coder K) [] := by
  obtain ⟨fd, F⟩ := T.F_Coder___init__
  refine mak_by F T.k_Coder T.g_Coder (F.bindsN fun _ _ _ _ _ _ us hl => match us, hl with | [_, _], _ => rfl) .nil sc_Coder___init__ (fun vs H Q E h => ?_) (fun cdv A outer s H vs Q E hr h => ?_)
  · obtain ⟨x, dx, pg, G, H0, rfl, _⟩ := h
    rfl
  obtain ⟨x, dx, pg, G, H0, rfl, sm, hx0, hx, hpg, ok, fin⟩ := h
  refine ⟨_, pss_cons (ps_fld (pv 0) (pv 1) rfl)
      (pss_cons (ps_fld (pv 0) (pe_mk c_Walker hr (by omega) rfl (pa_cons (pv 1) pa_nil)) rfl)
      (pss_cons (ps_fld (pv 0) (pe_lst pa_nil) rfl)
      (pss_cons (ps_fld (pv 0) (pe_lst pa_nil) rfl)
      (pss_one (ps_for PassesOwn.never rfl (pi_enum (by rfl) T.f_enumerate (pa_cons (pe_fld (pe_fld (pe_fld (pv 0) rfl) rfl) rfl) pa_nil)) (pg_tup (by rfl) (pgs_cons (pg_name (i := 2) sc_Coder___init__.nd rfl (Or.inl rfl)) (pgs_cons (pg_name (i := 3) sc_Coder___init__.nd rfl (Or.inl rfl)) pgs_nil)))
        (pss_cons (ps_expr (pe_bm PySem.F.plainAttrs_list PySem.F.slot_list_append PySem.F.type_list_append mt_append (pe_fld (pv 0) rfl) (pa_cons (pe_callB call_len_seq (by rfl) T.f_len (by decide +kernel) (pa_cons (pe_fld (pv 0) rfl) pa_nil)) pa_nil)))
        (pss_cons (ps_set (i := 4) sc_Coder___init__.nd rfl (Or.inl rfl) (pe_ix ix_tup (pe_ix ix_tup (pe_fld (pv 1) rfl) (pe_fld (pv 3) rfl) (fun _ _ => rfl)) pe_int (fun _ _ => rfl)))
        (pss_one (ps_for PassesOwn.never rfl (pi_range1 rfl T.f_range (pa_cons (pe_c c_twos hr (by omega) rfl (pa_cons (pv 4) pa_nil)) pa_nil)) (pg_name (i := 5) sc_Coder___init__.nd rfl (Or.inl rfl))
          (pss_one (ps_expr (pe_bm PySem.F.plainAttrs_list PySem.F.slot_list_append PySem.F.type_list_append mt_append (pe_fld (pv 0) rfl) (pa_cons (pe_tup (pa_cons (pv 2) (pa_cons (pe_c c_values_of hr (by omega) rfl (pa_cons (pv 5) (pa_cons (pv 4) pa_nil))) pa_nil))) pa_nil))))))))))))), ?_⟩
  refine ⟨_, rfl, _, rfl, x, _, dx, _, rfl, hx, T.c_Coder, T.n_Coder_program, (by show 0 < 1000; decide), ?_⟩
  have s1 := sm.mut (o := .ins (He.ga K "Coder") dx (putF "program" (.ref pg) [])) hx0
  have hx1 : (upd H x (.ins (He.ga K "Coder") dx (putF "program" (.ref pg) []))) x = some (.ins (He.ga K "Coder") dx (putF "program" (.ref pg) [])) := upd_same
  generalize upd H x (.ins (He.ga K "Coder") dx (putF "program" (.ref pg) [])) = H1 at *
  refine ⟨_, rfl, fun wk dxw h1 h2 h3 => ⟨wk, dxw, pg, G, H1, rfl, made h1 h2, h1, upd_same, hpg.same s1, ok, fun H2 sm2 hwk => ⟨rfl, ?_⟩⟩⟩
  have hx2 := sm2 _ _ hx1
  have hpg2 := hpg.same (s1.trans sm2)
  have s2 := s1.trans sm2
  refine ⟨_, rfl, x, _, dx, _, rfl, hx2, T.c_Coder, T.n_Coder_walker, (by show 1 < 1000; decide), ?_⟩
  have kx : ∀ {o : HO}, Kpt H2 (upd H2 x o) := fun {o} c u e n => by
    rw [upd_ne (fun y => by
      rw [y, hx2] at e
      cases e
      have := n _ _ _ rfl
      simp [putF] at this)]
    exact e
  have k3 := kx (o := .ins (He.ga K "Coder") dx (putF "walker" (.ref wk) (putF "program" (.ref pg) [])))
  have s3 := s2.mut (o := .ins (He.ga K "Coder") dx (putF "walker" (.ref wk) (putF "program" (.ref pg) []))) hx0
  have hx3 : (upd H2 x (.ins (He.ga K "Coder") dx (putF "walker" (.ref wk) (putF "program" (.ref pg) [])))) x = some (.ins (He.ga K "Coder") dx (putF "walker" (.ref wk) (putF "program" (.ref pg) []))) := upd_same
  have mono3 : ∀ {c : Addr}, (upd H2 x (.ins (He.ga K "Coder") dx (putF "walker" (.ref wk) (putF "program" (.ref pg) [])))) c = none → H2 c = none := fun {c} e => by
    by_cases z : c = x
    · rw [z, upd_same] at e
      cases e
    · rwa [upd_ne z] at e
  generalize upd H2 x (.ins (He.ga K "Coder") dx (putF "walker" (.ref wk) (putF "program" (.ref pg) []))) = H3 at *
  refine ⟨Nat.zero_le _, fun lf hlf => ⟨_, rfl, x, _, dx, _, rfl, same_upd hlf _ _ hx3, T.c_Coder, T.n_Coder_firsts, (by show 2 < 1000; decide), ?_⟩⟩
  have lf2 := mono3 hlf
  have nlf : lf ≠ x := Ne.symm (ne_of_none hx3 hlf)
  have k4 : Kpt H2 (upd (upd H3 lf (.lst [])) x (.ins (He.ga K "Coder") dx (putF "firsts" (.ref lf) (putF "walker" (.ref wk) (putF "program" (.ref pg) []))))) := fun c u e n => by
    have cx : c ≠ x := fun y => by
      rw [y, hx2] at e
      cases e
      have := n _ _ _ rfl
      simp [putF] at this
    rw [upd_ne cx]
    exact same_upd hlf _ _ (k3 c u e n)
  have s4 := (s3.new (o := .lst []) hlf).mut (o := .ins (He.ga K "Coder") dx (putF "firsts" (.ref lf) (putF "walker" (.ref wk) (putF "program" (.ref pg) [])))) hx0
  have hx4 : (upd (upd H3 lf (.lst [])) x (.ins (He.ga K "Coder") dx (putF "firsts" (.ref lf) (putF "walker" (.ref wk) (putF "program" (.ref pg) []))))) x = some (.ins (He.ga K "Coder") dx (putF "firsts" (.ref lf) (putF "walker" (.ref wk) (putF "program" (.ref pg) [])))) := upd_same
  have hlf4 : (upd (upd H3 lf (.lst [])) x (.ins (He.ga K "Coder") dx (putF "firsts" (.ref lf) (putF "walker" (.ref wk) (putF "program" (.ref pg) []))))) lf = some (.lst []) := by rw [upd_ne nlf]; exact upd_same
  have mono4 : ∀ {c : Addr}, (upd (upd H3 lf (.lst [])) x (.ins (He.ga K "Coder") dx (putF "firsts" (.ref lf) (putF "walker" (.ref wk) (putF "program" (.ref pg) []))))) c = none → H2 c = none := fun {c} e => by
    by_cases z : c = x
    · rw [z, upd_same] at e
      cases e
    · rw [upd_ne z] at e
      exact mono3 ((same_upd hlf).free e)
  generalize upd (upd H3 lf (.lst [])) x (.ins (He.ga K "Coder") dx (putF "firsts" (.ref lf) (putF "walker" (.ref wk) (putF "program" (.ref pg) [])))) = H4 at *
  refine ⟨Nat.zero_le _, fun lr hlr => ⟨_, rfl, x, _, dx, _, rfl, same_upd hlr _ _ hx4, T.c_Coder, T.n_Coder_frames, (by show 3 < 1000; decide), ?_⟩⟩
  rw [show putF (Str.ofString "frames") (V.ref lr) (putF (Str.ofString "firsts") (V.ref lf) (putF (Str.ofString "walker") (V.ref wk) (putF (Str.ofString "program") (V.ref pg) []))) = [(Str.ofString "program", V.ref pg), (Str.ofString "walker", V.ref wk), (Str.ofString "firsts", V.ref lf), (Str.ofString "frames", V.ref lr)] from rfl]
  have lr2 := mono4 hlr
  have nlr : lr ≠ x := Ne.symm (ne_of_none hx4 hlr)
  have nlfr : lf ≠ lr := ne_of_none hlf4 hlr
  have k5 : Kpt H2 (upd (upd H4 lr (.lst [])) x (.ins (He.ga K "Coder") dx [(Str.ofString "program", V.ref pg), (Str.ofString "walker", V.ref wk), (Str.ofString "firsts", V.ref lf), (Str.ofString "frames", V.ref lr)])) := fun c u e n => by
    have cx : c ≠ x := fun y => by
      rw [y, hx2] at e
      cases e
      have := n _ _ _ rfl
      simp [putF] at this
    rw [upd_ne cx]
    exact same_upd hlr _ _ (k4 c u e n)
  have s5 := (s4.new (o := .lst []) hlr).mut (o := .ins (He.ga K "Coder") dx [(Str.ofString "program", V.ref pg), (Str.ofString "walker", V.ref wk), (Str.ofString "firsts", V.ref lf), (Str.ofString "frames", V.ref lr)]) hx0
  have hx5 : (upd (upd H4 lr (.lst [])) x (.ins (He.ga K "Coder") dx [(Str.ofString "program", V.ref pg), (Str.ofString "walker", V.ref wk), (Str.ofString "firsts", V.ref lf), (Str.ofString "frames", V.ref lr)])) x = some (.ins (He.ga K "Coder") dx [(Str.ofString "program", V.ref pg), (Str.ofString "walker", V.ref wk), (Str.ofString "firsts", V.ref lf), (Str.ofString "frames", V.ref lr)]) := upd_same
  have hlf5 : (upd (upd H4 lr (.lst [])) x (.ins (He.ga K "Coder") dx [(Str.ofString "program", V.ref pg), (Str.ofString "walker", V.ref wk), (Str.ofString "firsts", V.ref lf), (Str.ofString "frames", V.ref lr)])) lf = some (.lst []) := by rw [upd_ne nlf]; exact same_upd hlr _ _ hlf4
  have hlr5 : (upd (upd H4 lr (.lst [])) x (.ins (He.ga K "Coder") dx [(Str.ofString "program", V.ref pg), (Str.ofString "walker", V.ref wk), (Str.ofString "firsts", V.ref lf), (Str.ofString "frames", V.ref lr)])) lr = some (.lst []) := by rw [upd_ne nlr]; exact upd_same
  generalize upd (upd H4 lr (.lst [])) x (.ins (He.ga K "Coder") dx [(Str.ofString "program", V.ref pg), (Str.ofString "walker", V.ref wk), (Str.ofString "firsts", V.ref lf), (Str.ofString "frames", V.ref lr)]) = H5 at *
  have lf0 : H0 lf = none := s2.free lf2
  have lr0 : H0 lr = none := s2.free lr2
  clear k3 k4 s3 s4 hx3 hx4 hlf4 mono3 mono4 kx
  -- the points
  obtain ⟨dw, pg2, mp, w1, wpg, dm, lp, le, as, m1, m2, m3, m4, m5⟩ := id hwk
  obtain ⟨dpg, tt, pxs, p1, p2, p3⟩ := hpg2
  have P10 := ok.pts10
  have K2 : ∀ {C d : Addr} {a b : Str × V} {r : List (Str × V)} {H6 : Hp} {c : Addr}, Kpt H2 H6 → H2 c = some (.ins C d (a :: b :: r)) → H6 c = some (.ins C d (a :: b :: r)) := fun k e => k _ _ e fun _ _ _ z => (by cases z; simp)
  have KL : ∀ {l : List V} {H6 : Hp} {c : Addr}, Kpt H2 H6 → H2 c = some (.lst l) → H6 c = some (.lst l) := fun k e => k _ _ e fun _ _ _ z => (by cases z)
  have kpB : ∀ {H6 H7 : Hp}, Kpt H2 H6 → SameB (fun c => c = lf ∨ c = lr) H6 H7 → Kpt H2 H7 := fun k sb c u e n => sb c u (k c u e n) fun z => by
    rcases z with z | z
    · rw [z, lf2] at e; cases e
    · rw [z, lr2] at e; cases e
  have s0B : ∀ {H6 H7 : Hp}, Same H0 H6 → SameB (fun c => c = lf ∨ c = lr) H6 H7 → Same H0 H7 := fun k sb => same_b k sb fun c z => by
    rcases z with z | z
    · rw [z]; exact lf0
    · rw [z]; exact lr0
  refine ⟨_, rfl, x, _, dx, _, _, rfl, hx5, T.c_Coder, T.n_Coder_walker, rfl, wk, _, dw, _, _, rfl, K2 k5 w1, T.c_Walker, T.n_Walker_map, rfl, mp, _, dm, _, _, rfl, K2 k5 m1, T.c_Points, T.n_Points_points, rfl, lp, _, rfl, SqL.of (KL k5 m2), ?_⟩
  refine for_it (walk_enum (K := K) (a := lp) (xs := refs1 as)) (fun i σ H6 => ∃ (x2 x3 x4 x5 : Option V) (xs : List V), σ = [some (.ref x), some (.ref pg), x2, x3, x4, x5] ∧ Kpt H2 H6 ∧ Same H0 H6 ∧
      H6 x = some (.ins (He.ga K "Coder") dx [(Str.ofString "program", V.ref pg), (Str.ofString "walker", V.ref wk), (Str.ofString "firsts", V.ref lf), (Str.ofString "frames", V.ref lr)]) ∧
      H6 lf = some (.lst ((fsts G 0 (G.pts.take i)).map fun n : Nat => V.int (n : Int))) ∧ H6 lr = some (.lst xs) ∧ RpAll H6 ((frs G 0 (G.pts.take i)).map frD) xs)
    ⟨_, _, _, _, [], rfl, k5, s5, hx5, by rw [List.take_zero]; exact hlf5, hlr5, by rw [List.take_zero]; rfl⟩ (fun i σ H6 _ ⟨_, _, _, _, _, _, k, _⟩ => SqL.of (KL k m2)) ?_ ?_
  · rintro i yv σ H6 _ hi ⟨x2, x3, x4, x5, xs, rfl, k6, s6, hx6, hlf6, hlr6, hxs⟩ ⟨U, _, v, rfl, hU, rfl, e1, e2⟩
    cases e1
    have e2 : (refs1 as)[i]? = some v := e2
    rw [refs1, List.getElem?_map] at e2
    obtain ⟨y, hy, rfl⟩ := Option.map_eq_some_iff.mp e2
    have hil : i < G.pts.length := by
      rw [← m4]
      exact (List.getElem?_eq_some_iff.mp hy).1
    obtain ⟨p, hp⟩ : ∃ p, G.pts[i]? = some p := ⟨_, List.getElem?_eq_getElem hil⟩
    obtain ⟨y', hy', po⟩ := m5 i p hp
    rw [Nat.zero_add, hy] at hy'
    cases hy'
    have pok := ok.pt hp
    obtain ⟨pr, hpr⟩ : ∃ pr, G.procs[p.proc]? = some pr := ⟨_, List.getElem?_eq_getElem pok.proc⟩
    obtain ⟨pv, hpv, rv⟩ := p3.get (i := p.proc) (d := procD pr) (by rw [List.getElem?_map, hpr]; rfl)
    obtain ⟨u, us, rfl, hu, v1, _, rfl, rfl, vb, _, rfl, rb, rfl⟩ := rv
    have elc : G.lc p.proc = pr.1 := by unfold Prog.lc; rw [hpr]; rfl
    have lc1 := ok.lc1 p.proc
    rw [elc] at lc1
    have etk : G.pts.take (i + 1) = G.pts.take i ++ [p] := by rw [List.take_add_one, hp]; rfl
    have ltk : (G.pts.take i).length = i := by rw [List.length_take]; omega
    have xl : xs.length = (frs G 0 (G.pts.take i)).length := by rw [hxs.len, List.length_map]
    have xl2 := frs_le ok.lc1 (G.pts.take i) 0
    rw [ltk] at xl2
    -- the pair
    have su := same_upd (o := .tup [V.int (i : Nat), V.ref y.1]) hU
    have hU7 : (upd H6 U (.tup [V.int (i : Nat), V.ref y.1])) U = some (.tup [V.int (i : Nat), V.ref y.1]) := upd_same
    have k7 : Kpt H2 (upd H6 U (.tup [V.int (i : Nat), V.ref y.1])) := fun c u e n => su _ _ (k6 c u e n)
    have s7 := s6.trans su
    have hx7 := su _ _ hx6
    have hlf7 := su _ _ hlf6
    have hlr7 := su _ _ hlr6
    have hxs7 := RpAll.at su.tups _ _ hxs
    generalize upd H6 U (.tup [V.int (i : Nat), V.ref y.1]) = H7 at *
    refine ⟨U, _, rfl, SqT.of hU7, rfl, _, _, rfl, _, _, rfl, rfl, ?_⟩
    refine ⟨_, rfl, x, _, dx, _, _, rfl, hx7, T.c_Coder, T.n_Coder_firsts, rfl, .inl ⟨rfl, _, SqL.of hlf7⟩, _, rfl, x, _, dx, _, _, rfl, hx7, T.c_Coder, T.n_Coder_frames, rfl, lr, _, rfl, .inl (SqL.of hlr7), lf, _, _, rfl, rfl, hlf7, smallL (by rw [List.length_map, fsts_len, ltk]; omega), ?_⟩
    have ef : (fsts G 0 (G.pts.take i)).map (fun n : Nat => V.int (n : Int)) ++ [V.int (xs.length : Nat)] = (fsts G 0 (G.pts.take (i + 1))).map fun n : Nat => V.int (n : Int) := by
      rw [etk, fsts_snoc G _ 0 0, List.map_append, xl, Nat.zero_add]
      rfl
    rw [ef]
    have sb8 : SameB (fun c => c = lf ∨ c = lr) H7 (upd H7 lf (.lst ((fsts G 0 (G.pts.take (i + 1))).map fun n : Nat => V.int (n : Int)))) := SameB.upd (fun _ _ e _ => e) (.inl rfl)
    have k8 := kpB k7 sb8
    have s8 := s0B s7 sb8
    have hx8 := sb8 _ _ hx7 (fun z => z.elim (fun z => nlf z.symm) (fun z => nlr z.symm))
    have hlf8 : (upd H7 lf (.lst ((fsts G 0 (G.pts.take (i + 1))).map fun n : Nat => V.int (n : Int)))) lf = some (.lst ((fsts G 0 (G.pts.take (i + 1))).map fun n : Nat => V.int (n : Int))) := upd_same
    have hlr8 : (upd H7 lf (.lst ((fsts G 0 (G.pts.take (i + 1))).map fun n : Nat => V.int (n : Int)))) lr = some (.lst xs) := by rw [upd_ne (Ne.symm nlfr)]; exact hlr7
    have hxs8 := RpAll.at (tups_lst (o := .lst ((fsts G 0 (G.pts.take (i + 1))).map fun n : Nat => V.int (n : Int))) hlf7) _ _ hxs7
    generalize upd H7 lf (.lst ((fsts G 0 (G.pts.take (i + 1))).map fun n : Nat => V.int (n : Int))) = H8 at *
    obtain ⟨dy, sv, o1, _⟩ := po.kp k8
    refine ⟨_, rfl, pg, _, dpg, _, _, rfl, K2 k8 p1, T.c_Program, T.n_Program_procedures, rfl, _, rfl, y.1, _, dy, _, _, rfl, o1, T.c_Point, T.n_Point_procedure, rfl, tt, _, p.proc, _, rfl, rfl, SqT.of (k8.tups _ _ p2), atI_nat hpv, u, _, _, _, rfl, rfl, SqT.of (k8.tups _ _ hu), rfl, ?_⟩
    refine ⟨_, rfl, pr.1, rfl, by omega, ?_⟩
    have two2 : 2 ^ pr.1 ≤ 2 ^ 1 := Nat.pow_le_pow_right (by decide) lc1
    obtain ⟨N, hN⟩ : ∃ N, 2 ^ pr.1 = N := ⟨_, rfl⟩
    rw [hN]
    rw [hN] at two2
    refine ⟨_, rfl, by omega, by omega, ?_⟩
    refine for_range (n := ((N : Nat) : Int).toNat) (fun j σ H9 => ∃ (x5 : Option V) (ys : List V), σ = [some (.ref x), some (.ref pg), some (.int (i : Nat)), some (.ref y.1), some (.int pr.1), x5] ∧ Kpt H2 H9 ∧ Same H0 H9 ∧
        H9 x = some (.ins (He.ga K "Coder") dx [(Str.ofString "program", V.ref pg), (Str.ofString "walker", V.ref wk), (Str.ofString "firsts", V.ref lf), (Str.ofString "frames", V.ref lr)]) ∧
        H9 lf = some (.lst ((fsts G 0 (G.pts.take (i + 1))).map fun n : Nat => V.int (n : Int))) ∧ H9 lr = some (.lst ys) ∧ RpAll H9 ((frs G 0 (G.pts.take i) ++ (List.range j).map fun n => (i, vals n pr.1)).map frD) ys)
      ⟨_, xs, rfl, k8, s8, hx8, hlf8, hlr8, by simpa using hxs8⟩ ?_ ?_
    · rintro j σ H9 hj ⟨x5, ys, rfl, k9, s9, hx9, hlf9, hlr9, hys⟩
      have yl : ys.length = (frs G 0 (G.pts.take i)).length + j := by rw [hys.len, List.length_map, List.length_append, List.length_map, List.length_range]
      refine ⟨_, rfl, x, _, dx, _, _, rfl, hx9, T.c_Coder, T.n_Coder_frames, rfl, .inl ⟨rfl, _, SqL.of hlr9⟩, _, rfl, _, rfl, _, rfl, j, pr.1, by rw [Int.zero_add]; rfl, by omega, fun va H10 s10 _ hva => ⟨(by show 2 ≤ sizeLine; decide), fun t ht => ⟨lr, _, _, rfl, rfl, same_upd ht _ _ (s10 _ _ hlr9), smallL (by omega), ?_⟩⟩⟩
      have s11 := s10.new (o := .tup [V.int (i : Nat), V.ref va]) ht
      have sb : SameB (fun c => c = lf ∨ c = lr) H9 (upd (upd H10 t (.tup [V.int (i : Nat), V.ref va])) lr (.lst (ys ++ [V.ref t]))) := SameB.upd s11.b (.inr rfl)
      have hlr11 := s11 _ _ hlr9
      have tp : Tups (upd H10 t (.tup [V.int (i : Nat), V.ref va])) (upd (upd H10 t (.tup [V.int (i : Nat), V.ref va])) lr (.lst (ys ++ [V.ref t]))) := tups_lst hlr11
      refine ⟨_, ys ++ [.ref t], rfl, kpB k9 sb, s0B s9 sb, sb _ _ hx9 (fun z => z.elim (fun z => nlf z.symm) (fun z => nlr z.symm)), ?_, upd_same, ?_⟩
      · rw [upd_ne nlfr]
        exact s11 _ _ hlf9
      · rw [show (List.range (j + 1)).map (fun n => (i, vals n pr.1)) = (List.range j).map (fun n => (i, vals n pr.1)) ++ [(i, vals j pr.1)] by rw [List.range_succ, List.map_append]; rfl, ← List.append_assoc, List.map_append (l₂ := [(i, vals j pr.1)])]
        refine (RpAll.at (s11.tups.trans tp) _ _ hys).snoc (Rp.at tp _ _ (Rp.new ht (.cons rfl (.one ⟨va, _, rfl, hva, RpAll.bools _⟩))))
    · rintro σ H9 ⟨x5, ys, rfl, k9, s9, hx9, hlf9, hlr9, hys⟩
      refine ⟨_, _, _, _, ys, rfl, k9, s9, hx9, hlf9, hlr9, ?_⟩
      rw [etk, frs_snoc, ltk, Nat.zero_add, elc, hN]
      rw [Int.toNat_natCast] at hys
      exact hys
  · rintro σ H6 ⟨x2, x3, x4, x5, xs, rfl, k6, s6, hx6, hlf6, hlr6, hxs⟩
    rw [show (refs1 as).length = G.pts.length by rw [List.length_map]; exact m4, List.take_length] at hlf6 hxs
    exact fin H6 s6 ⟨dx, pg, wk, lf, lr, xs, hx6, PgAt.kp ⟨dpg, tt, pxs, p1, p2, p3⟩ k6, hwk.kp k6, hlf6, hlr6, hxs⟩
def sp_letter (K : PySem.W.Frag) : Sp := fun vs H Q _ => ∃ (a : Addr) (v : V) (f : Fr) (G : Prog), vs = [.ref a, v] ∧ CdAt K H a G ∧ Rp H (frD f) v ∧ f.1 < G.pts.length ∧ Q (.int ((G.letter f : Nat) : Int)) H
abbrev n_Coder_letter : List Str := ["self", "frame"]
theorem sc_Coder_letter : FnScope n_Coder_letter ["self", "frame"] (defScope s_Coder_letter) := ⟨rfl, rfl, rfl, by decide +kernel, rfl, by decide +kernel, by decide +kernel⟩
theorem ok_letter (T : Env K mg) (c_number_of : Cal P w K mg base 1 "number_of" sp_num []) : Met P w K mg base 2 (He.ga K "Coder") "letter" (sp_letter K) [] := by
  obtain ⟨fd, F⟩ := T.F_Coder_letter
  refine met_by F T.c_Coder T.m_Coder_letter (F.bindsN fun _ _ _ _ _ _ us hl => match us, hl with | [_, _], _ => rfl) sc_Coder_letter (fun vs H Q E h => ?_) (fun cdv A outer s H vs Q E hr h => ?_)
  · obtain ⟨a, v, f, G, rfl, _⟩ := h
    rfl
  obtain ⟨a, v, f, G, rfl, ⟨dx, pg, wk, lf, lr, xs, ha, _, _, hlf, _, _⟩, hv, hf, k⟩ := h
  obtain ⟨fa, _, rfl, hfa, _, _, rfl, rfl, lv, _, rfl, hlv, rfl⟩ := hv
  obtain ⟨la, rfl, hla⟩ := Rp.boolsT.mp hlv
  refine ⟨_, pss_one (ps_ret (pe_op op_add (pe_ix ix_list (pe_fld (pv 0) rfl) (pe_ix ix_tup (pv 1) pe_int (fun _ _ => rfl)) (fun _ _ => rfl)) (pe_c c_number_of hr (by omega) rfl (pa_cons (pe_ix ix_tup (pv 1) pe_int (fun _ _ => rfl)) pa_nil)))), ?_⟩
  have hfl : f.1 < G.firsts.length := by unfold Prog.firsts; rw [fsts_len]; exact hf
  refine ⟨_, rfl, a, _, dx, _, _, rfl, ha, T.c_Coder, T.n_Coder_firsts, rfl, _, rfl, fa, _, _, _, rfl, rfl, SqT.of hfa, rfl, lf, _, f.1, _, rfl, rfl, SqL.of hlf, atI_nat (by rw [List.getElem?_map, List.getElem?_eq_getElem hfl]; rfl), ?_⟩
  refine ⟨_, rfl, fa, _, _, _, rfl, rfl, SqT.of hfa, rfl, la, f.2, rfl, hla, _, _, rfl, rfl, ?_⟩
  have e : ((G.firsts[f.1] : Nat) : Int) + ((num f.2 : Nat) : Int) = ((G.letter f : Nat) : Int) := by
    unfold Prog.letter
    simp only [List.getD, List.getElem?_eq_getElem hfl, Option.getD_some]
    rw [Int.natCast_add]
  show Q (.int (((G.firsts[f.1] : Nat) : Int) + ((num f.2 : Nat) : Int))) H
  rw [e]
  exact k
def sp_pile (K : PySem.W.Frag) : Sp := fun vs H Q _ => ∃ (a : Addr) (v : V) (fs : List Fr) (G : Prog), vs = [.ref a, v] ∧ CdAt K H a G ∧ Rp H (.tuple (fs.map frD)) v ∧ (∀ f ∈ fs, f.1 < G.pts.length) ∧ fs.length ≤ 1000 ∧
  ∀ (r : Addr) (H' : Hp), Same H H' → H' r = some (.tup ((fs.map G.letter).map fun n : Nat => V.int (n : Int))) → Q (.ref r) H'
abbrev n_Coder_pile : List Str := ["self", "frames", "frame"]
theorem sc_Coder_pile : FnScope n_Coder_pile ["self", "frames"] (defScope s_Coder_pile) := ⟨rfl, rfl, rfl, by decide +kernel, rfl, by decide +kernel, by decide +kernel⟩
theorem ok_pile (T : Env K mg) (c_Coder_letter : Met P w K mg base 2 (He.ga K "Coder") "letter" (sp_letter K) []) : Met P w K mg base 3 (He.ga K "Coder") "pile" (sp_pile K) [] := by
  obtain ⟨fd, F⟩ := T.F_Coder_pile
  refine met_by F T.c_Coder T.m_Coder_pile (F.bindsN fun _ _ _ _ _ _ us hl => match us, hl with | [_, _], _ => rfl) sc_Coder_pile (fun vs H Q E h => ?_) (fun cdv A outer s H vs Q E hr h => ?_)
  · obtain ⟨a, v, fs, G, rfl, _⟩ := h
    rfl
  obtain ⟨a, v, fs, G, rfl, hc, ⟨fa, fxs, rfl, hfa, hfx⟩, hf, h1000, k⟩ := h
  refine ⟨_, pss_one (ps_ret (pe_callTy call_tuple_of (by rfl) T.f_tuple (by decide +kernel) (pa_cons (pe_lc (own := [("frame", 2)]) (g := gName 2) (by rfl) sc_Coder_pile.nd (pi_tup (pv 1)) (blkOk_by (own := [("frame", 2)]) (N := n_Coder_pile) (sc := defScope s_Coder_pile) (by decide +kernel)) (fun _ _ _ _ _ => (pg_name (i := 2) sc_Coder_pile.nd rfl (Or.inl rfl))) (fun _ _ _ _ _ => pts_nil) (fun _ _ _ _ _ => (pe_mt c_Coder_letter hr (by omega) (pv 0) (pa_cons (pv 2) pa_nil)))) pa_nil))), ?_⟩
  have hl : fxs.length = fs.length := by rw [hfx.len, List.length_map]
  refine ⟨_, rfl, fa, rfl, ⟨_, SqT.of hfa⟩, fun D hD => ?_⟩
  refine lc_it (walk_tup (K := K) (a := fa) (xs := fxs)) (fun j H3 => Same H H3 ∧ H3 D = some (.lst (((fs.take j).map G.letter).map fun n : Nat => V.int (n : Int)))) ⟨same_upd hD, upd_same⟩ (fun j H3 _ z => SqT.of (z.1 _ _ hfa)) ?_ ?_
  · rintro j y _ H3 hj ⟨sm3, hD3⟩ ⟨rfl, hyj⟩
    obtain ⟨d, hdj, rdj⟩ := hfx.getV hyj
    rw [List.getElem?_map] at hdj
    obtain ⟨f, hfj, rfl⟩ := Option.map_eq_some_iff.mp hdj
    have hc3 := hc.same sm3
    obtain ⟨dx, _, _, _, _, _, ha3, _⟩ := id hc3
    refine ⟨rfl, ?_⟩
    dsimp only [tYes]
    refine iteT ?_
    refine ⟨_, rfl, a, dx, _, rfl, ha3, rfl, _, rfl, a, y, f, G, rfl, hc3, Rp.at sm3.tups _ _ rdj, hf f (List.mem_of_getElem? hfj), _, hD3, smallL (by rw [List.length_map, List.length_map, List.length_take]; omega), sm3.mut hD, ?_⟩
    rw [upd_same, List.take_add_one, hfj, List.map_append, List.map_append]
    rfl
  · rintro H3 ⟨sm3, hD3⟩
    rw [hl, List.take_length] at hD3
    exact ⟨D, _, rfl, .inl ⟨SqL.of hD3, fun r hr2 => k r _ (sm3.new hr2) upd_same⟩⟩
/-! ### steps -/
def StV (K : PySem.W.Frag) (H : Hp) (st : Stp) (v : V) : Prop := ∃ o dx t : Addr, v = .ref o ∧ H o = some (.ins (He.ga K "Step") dx [("state", .int st.st), ("letter", .int st.lt), ("goal", .int st.go), ("laid", .ref t), ("weight", .int 1)]) ∧ H t = some (.tup (st.la.map fun n : Nat => V.int (n : Int)))
theorem StV.same {H H' : Hp} {st : Stp} {v : V} (h : StV K H st v) (e : Same H H') : StV K H' st v := let ⟨o, dx, t, h1, h2, h3⟩ := h; ⟨o, dx, t, h1, e _ _ h2, e _ _ h3⟩
def sp_step (K : PySem.W.Frag) : Sp := fun vs H Q _ => ∃ (x dx t : Addr) (st : Stp) (H0 : Hp), vs = [.ref x, .int st.st, .int st.lt, .int st.go, .ref t, .int 1] ∧ Same H0 H ∧ H0 x = none ∧ H x = some (.ins (He.ga K "Step") dx []) ∧ H0 t = some (.tup (st.la.map fun n : Nat => V.int (n : Int))) ∧
  ∀ H', Same H0 H' → StV K H' st (.ref x) → Q .non H'
abbrev n_Step___init__ : List Str := ["self", "state", "letter", "goal", "laid", "weight"]
theorem sc_Step___init__ : FnScope n_Step___init__ ["self", "state", "letter", "goal", "laid", "weight"] (defScope s_Step___init__) := ⟨rfl, rfl, rfl, by decide +kernel, rfl, by decide +kernel, by decide +kernel⟩
theorem ok_step (T : Env K mg) : Mak P w K mg base 1 "Step" (He.ga K "Step") (sp_step K) [.int 1] := by
  obtain ⟨fd, F⟩ := T.F_Step___init__
  obtain ⟨ds, hds, hb⟩ := F.binds1 (ps := ["self", "state", "letter", "goal", "laid", "weight"]) 5 1 (by simp) (by rfl) (fun _ _ _ _ _ _ _ us its hl hi => match us, its, hl, hi with | [_, _, _, _, _], [_, _], _, _ => ⟨_, rfl, rfl⟩)
  refine mak_by F T.k_Step T.g_Step hb hds sc_Step___init__ (fun vs H Q E h => ?_) (fun cdv A outer s H vs Q E hr h => ?_)
  · obtain ⟨x, dx, t, st, H0, rfl, _⟩ := h
    rfl
  obtain ⟨x, dx, t, st, H0, rfl, sm, hx0, hx, ht, fin⟩ := h
  refine ⟨_, pss_cons (ps_fld (pv 0) (pv 1) rfl)
      (pss_cons (ps_fld (pv 0) (pv 2) rfl)
      (pss_cons (ps_fld (pv 0) (pv 3) rfl)
      (pss_cons (ps_fld (pv 0) (pe_callTy call_tuple_of (by rfl) T.f_tuple (by decide +kernel) (pa_cons (pv 4) pa_nil)) rfl)
      (pss_one (ps_fld (pv 0) (pv 5) rfl))))), ?_⟩
  refine ⟨_, rfl, _, rfl, x, _, dx, _, rfl, hx, T.c_Step, T.n_Step_state, (by show 0 < 1000; decide), ?_⟩
  refine ⟨_, rfl, _, rfl, x, _, dx, _, rfl, upd_same, T.c_Step, T.n_Step_letter, (by show 1 < 1000; decide), ?_⟩
  rw [upd_upd]
  refine ⟨_, rfl, _, rfl, x, _, dx, _, rfl, upd_same, T.c_Step, T.n_Step_goal, (by show 2 < 1000; decide), ?_⟩
  rw [upd_upd]
  have s1 := sm.mut (o := .ins (He.ga K "Step") dx (putF "goal" (.int st.go) (putF "letter" (.int st.lt) (putF "state" (.int st.st) [])))) hx0
  refine ⟨_, rfl, t, _, rfl, .inr ⟨SqT.of (s1 _ _ ht), _, rfl, x, _, dx, _, rfl, upd_same, T.c_Step, T.n_Step_laid, (by show 3 < 1000; decide), ?_⟩⟩
  rw [upd_upd]
  refine ⟨_, rfl, _, rfl, x, _, dx, _, rfl, upd_same, T.c_Step, T.n_Step_weight, (by show 4 < 1000; decide), ?_⟩
  rw [upd_upd]
  have s2 := sm.mut (o := .ins (He.ga K "Step") dx (putF "weight" (.int 1) (putF "laid" (.ref t) (putF "goal" (.int st.go) (putF "letter" (.int st.lt) (putF "state" (.int st.st) [])))))) hx0
  exact fin _ s2 ⟨x, dx, t, rfl, upd_same, s2 _ _ ht⟩
def sp_steps (K : PySem.W.Frag) : Sp := fun vs H Q _ => ∃ (a : Addr) (n s : Nat) (G : Prog), vs = [.ref a, .int n, .int s] ∧ CdAt K H a G ∧ G.Ok ∧ n < G.frames.length ∧ ∀ (r : Addr) (xs : List V) (H' : Hp), Same H H' → H' r = some (.lst xs) → AllV (StV K H') (G.steps1 n s) xs → Q (.ref r) H'
theorem frs_ok {G : Prog} : ∀ (ps : List Pt) (pl : Nat) (f : Fr), f ∈ frs G pl ps → ∃ i p, ps[i]? = some p ∧ f.1 = pl + i ∧ f.2.length = G.lc p.proc
  | [], pl, f, h => by simp [frs] at h
  | q :: r, pl, f, h => by
    simp only [frs, List.mem_append, List.mem_map] at h
    rcases h with ⟨n, _, rfl⟩ | h
    · exact ⟨0, q, rfl, rfl, vals_len _ _⟩
    · obtain ⟨i, p, h1, h2, h3⟩ := frs_ok r (pl + 1) f h
      exact ⟨i + 1, p, by simpa using h1, by omega, h3⟩
theorem frames_ok {G : Prog} {f : Fr} (h : f ∈ G.frames) : FrOk G f := by
  obtain ⟨i, p, h1, h2, h3⟩ := frs_ok G.pts 0 f h
  exact ⟨p, by rw [h2, Nat.zero_add]; exact h1, h3⟩
theorem FrOk.lt {G : Prog} {f : Fr} (h : FrOk G f) : f.1 < G.pts.length := let ⟨_, h1, _⟩ := h; (List.getElem?_eq_some_iff.mp h1).1
abbrev n_Coder_steps : List Str := ["self", "letter", "state", "found", "values", "goal", "frames"]
theorem sc_Coder_steps : FnScope n_Coder_steps ["self", "letter", "state"] (defScope s_Coder_steps) := ⟨rfl, rfl, rfl, by decide +kernel, rfl, by decide +kernel, by decide +kernel⟩
theorem ok_steps (T : Env K mg) (c_values_of : Cal P w K mg base 1 "values_of" sp_vals []) (c_Walker_after : Met P w K mg base 5 (He.ga K "Walker") "after" (sp_aft K) []) (c_Step : Mak P w K mg base 1 "Step" (He.ga K "Step") (sp_step K) [.int 1]) (c_number_of : Cal P w K mg base 1 "number_of" sp_num [])
    (c_Coder_pile : Met P w K mg base 3 (He.ga K "Coder") "pile" (sp_pile K) []) : Met P w K mg base 6 (He.ga K "Coder") "steps" (sp_steps K) [] := by
  obtain ⟨fd, F⟩ := T.F_Coder_steps
  refine met_by F T.c_Coder T.m_Coder_steps (F.bindsN fun _ _ _ _ _ _ us hl => match us, hl with | [_, _, _], _ => rfl) sc_Coder_steps (fun vs H Q E h => ?_) (fun cdv A outer s H vs Q E hr h => ?_)
  · obtain ⟨a, n, s, G, rfl, _⟩ := h
    rfl
  obtain ⟨a, n, s, G, rfl, hc, ok, hn, k⟩ := h
  obtain ⟨dx, pg, wk, lf, lr, fxs, ha, hpg, hwk, hlf, hlr, hfx⟩ := id hc
  obtain ⟨dpg, tt, pxs, p1, p2, p3⟩ := id hpg
  obtain ⟨dw, _, _, w1, _⟩ := id hwk
  obtain ⟨f, hf⟩ : ∃ f, G.frames[n]? = some f := ⟨_, List.getElem?_eq_getElem hn⟩
  obtain ⟨fv, hfv, rfv⟩ := hfx.get (i := n) (d := frD f) (by rw [List.getElem?_map, hf]; rfl)
  have fok := frames_ok (List.mem_of_getElem? hf)
  have gc := ok.gc
  refine ⟨_, pss_cons (ps_set (i := 3) sc_Coder_steps.nd rfl (Or.inl rfl) (pe_lst pa_nil))
      (pss_cons (ps_set (i := 4) sc_Coder_steps.nd rfl (Or.inl rfl) (pe_c c_values_of hr (by omega) rfl (pa_cons (pv 2) (pa_cons (pe_fld (pe_fld (pv 0) rfl) rfl) pa_nil))))
      (pss_cons (ps_for PassesOwn.never rfl (pi_list (pe_mt c_Walker_after hr (by omega) (pe_fld (pv 0) rfl) (pa_cons (pv 4) (pa_cons (pe_ix ix_list (pe_fld (pv 0) rfl) (pv 1) (fun _ _ => rfl)) pa_nil)))) (pg_tup (by rfl) (pgs_cons (pg_name (i := 5) sc_Coder_steps.nd rfl (Or.inl rfl)) (pgs_cons (pg_name (i := 6) sc_Coder_steps.nd rfl (Or.inl rfl)) pgs_nil)))
        (pss_one (ps_expr (pe_bm PySem.F.plainAttrs_list PySem.F.slot_list_append PySem.F.type_list_append mt_append (pv 3) (pa_cons (pe_mk c_Step hr (by omega) rfl (pa_cons (pv 2) (pa_cons (pv 1) (pa_cons (pe_c c_number_of hr (by omega) rfl (pa_cons (pv 5) pa_nil)) (pa_cons (pe_mt c_Coder_pile hr (by omega) (pv 0) (pa_cons (pv 6) pa_nil)) pa_nil))))) pa_nil)))))
      (pss_one (ps_ret (pv 3))))), ?_⟩
  refine ⟨Nat.zero_le _, fun fd hfd => ?_⟩
  have s1 := same_upd (o := .lst []) hfd
  have hfd1 : (upd H fd (.lst [])) fd = some (.lst []) := upd_same
  generalize upd H fd (.lst []) = H1 at *
  refine ⟨_, rfl, _, rfl, a, _, dx, _, _, rfl, s1 _ _ ha, T.c_Coder, T.n_Coder_program, rfl, pg, _, dpg, _, _, rfl, s1 _ _ p1, T.c_Program, T.n_Program_global_count, rfl, s, G.gc, rfl, by omega, fun va H2 s2 _ hva => ?_⟩
  have s02 := s1.trans s2
  refine ⟨_, rfl, a, _, dx, _, _, rfl, s02 _ _ ha, T.c_Coder, T.n_Coder_walker, rfl, wk, dw, _, rfl, s02 _ _ w1, rfl, _, rfl, _, rfl, a, _, dx, _, _, rfl, s02 _ _ ha, T.c_Coder, T.n_Coder_frames, rfl, _, rfl, lr, _, n, _, rfl, rfl, SqL.of (s02 _ _ hlr), atI_nat hfv, ?_⟩
  refine ⟨wk, va, fv, vals s G.gc, f, G, rfl, hwk.same s02, ok, hva, Rp.at s02.tups _ _ rfv, vals_len _ _, fok, fun r ys H3 s3 hr3 hys => ?_⟩
  have s03 := s02.trans s3
  have hfd3 := s3 _ _ (s2 _ _ hfd1)
  have aok := aft_ok ok (vals_len G.gc s) fok
  have eyl : ys.length = (aft G (vals s G.gc) f).length := by rw [hys.len, List.length_map]
  have al2 : (aft G (vals s G.gc) f).length ≤ 2 := by
    obtain ⟨p, hp, _⟩ := fok
    unfold aft
    rw [hp]
    simp only [aftP]
    cases p.stm with
    | none => simp
    | some st => cases st <;> simp [goals]
  have est : G.steps1 n s = (aft G (vals s G.gc) f).map fun x => ⟨s, n, num x.1, x.2.map G.letter⟩ := by
    unfold Prog.steps1
    rw [hf]
  refine ⟨r, rfl, ⟨_, SqL.of hr3⟩, for_it (walk_list (K := K) (a := r) (xs := ys)) (fun i σ H4 => ∃ (x5 x6 : Option V) (zs : List V), σ = [some (.ref a), some (.int n), some (.int s), some (.ref fd), some (.ref va), x5, x6] ∧ SameB (· = fd) H3 H4 ∧ Same H H4 ∧ H4 fd = some (.lst zs) ∧
      AllV (StV K H4) (((aft G (vals s G.gc) f).take i).map fun x => ⟨s, n, num x.1, x.2.map G.letter⟩) zs)
    ⟨_, _, [], rfl, fun _ _ e _ => e, s03, hfd3, by rw [List.take_zero]; exact .nil⟩ (fun i σ H4 hi ⟨_, _, zs, _, z, _, zf, zz⟩ => ?_) ?_ ?_⟩
  · by_cases c : r = fd
    · exfalso
      rw [c, hfd3] at hr3
      cases hr3
      have : (aft G (vals s G.gc) f).length ≠ 0 := by
        obtain ⟨p, hp, _⟩ := fok
        unfold aft
        rw [hp]
        simp only [aftP]
        cases p.stm with
        | none => simp
        | some st => cases st <;> simp [goals]
      exact this eyl.symm
    · exact SqL.of (z _ _ hr3 c)
  · rintro i v σ _ H4 hi ⟨x5, x6, zs, rfl, sb, s04, hfd4, hzs⟩ ⟨rfl, hvi⟩
    obtain ⟨d, hdi, rd⟩ := hys.getV hvi
    rw [List.getElem?_map] at hdi
    obtain ⟨x, hx, rfl⟩ := Option.map_eq_some_iff.mp hdi
    obtain ⟨q1, q2, q3⟩ := aok x (List.mem_of_getElem? hx)
    obtain ⟨t, _, rfl, ht, gv, _, rfl, hgv, fsv, _, rfl, hfs, rfl⟩ := rd
    obtain ⟨ga, rfl, hga⟩ := Rp.boolsT.mp hgv
    have tp : Tups H3 H4 := fun c xs e => sb _ _ e fun z => by
      rw [show c = fd from z, hfd3] at e
      cases e
    have hl : zs.length = i := by rw [hzs.1, List.length_map, List.length_take]; omega
    obtain ⟨_, _, _, _, _, _, ha4, _⟩ := id (hc.same s04)
    refine ⟨t, _, rfl, SqT.of (tp _ _ ht), rfl, _, _, rfl, _, _, rfl, rfl, ?_⟩
    refine ⟨_, rfl, .inl ⟨rfl, _, SqL.of hfd4⟩, ?_⟩
    refine ⟨_, rfl, _, rfl, _, rfl, ga, x.1, rfl, tp _ _ hga, ?_⟩
    refine ⟨_, rfl, a, _, _, rfl, ha4, rfl, _, rfl, a, fsv, x.2, G, rfl, hc.same s04, Rp.at tp _ _ hfs, fun f' m => (q2 f' m).lt, by omega, fun la H5 s5 hla => ?_⟩
    refine fun o dxo h1 h2 h3 => ⟨o, dxo, la, ⟨s, n, num x.1, x.2.map G.letter⟩, H5, rfl, made h1 h2, h1, upd_same, hla, fun H6 s6 hst => ⟨rfl, ?_⟩⟩
    have s46 := s5.trans s6
    have hfd6 := s46 _ _ hfd4
    refine ⟨fd, _, _, rfl, rfl, hfd6, smallL (by omega), _, _, zs ++ [.ref o], rfl, SameB.upd (fun c u e n => s46 _ _ (sb c u e n)) rfl, (s04.trans s46).mut hfd, upd_same, ?_⟩
    have keep : ∀ {st : Stp} {v : V}, StV K H6 st v → StV K (upd H6 fd (.lst (zs ++ [.ref o]))) st v := fun ⟨o, dx, t, e1, e2, e3⟩ =>
      ⟨o, dx, t, e1, by rw [upd_ne (fun z => by rw [z, hfd6] at e2; cases e2)]; exact e2, by rw [upd_ne (fun z => by rw [z, hfd6] at e3; cases e3)]; exact e3⟩
    rw [List.take_add_one, hx, List.map_append]
    exact (hzs.imp fun d v z => keep (z.same s46)).snoc (keep hst)
  · rintro σ H4 ⟨x5, x6, zs, rfl, sb, s04, hfd4, hzs⟩
    rw [eyl, List.take_length] at hzs
    exact ⟨_, rfl, k fd zs H4 s04 hfd4 (by rw [est]; exact hzs)⟩
end
end Pr
/-! The finite graph of situations that the law searches. Plain Lean. -/
namespace Pr
inductive Rch (G : Prog) : Sit → Prop
  | begin : Rch G G.begin
  | step {s s' : Sit} : Rch G s → s' ∈ sucs G s → Rch G s'
structure Wd (G : Prog) (ps : List Sit) (ed : List (Nat × Nat)) (n j : Nat) : Prop where
  first : ps[0]? = some G.begin
  nd : ps.Nodup
  ok : ∀ s ∈ ps, SitOk G s
  rch : ∀ s ∈ ps, Rch G s
  len : ∀ i s, ps[i]? = some s → s.2.length ≤ i + 1
  snd : ∀ e ∈ ed, ∃ s s', ps[e.1]? = some s ∧ ps[e.2]? = some s' ∧ s' ∈ sucs G s
  cmp : ∀ i, i < n → ∀ s, ps[i]? = some s → ∀ s' ∈ sucs G s, ∃ k, (i, k) ∈ ed ∧ ps[k]? = some s'
  cur : ∀ s, ps[n]? = some s → ∀ s' ∈ (sucs G s).take j, ∃ k, (n, k) ∈ ed ∧ ps[k]? = some s'
  le : n ≤ ps.length
theorem Wd.start {G : Prog} (ok : G.Ok) : Wd G [G.begin] [] 0 0 where
  first := rfl
  nd := by simp
  ok := fun s hs => by rw [List.mem_singleton.mp hs]; exact begin_ok ok
  rch := fun s hs => by rw [List.mem_singleton.mp hs]; exact .begin
  len := fun i s h => by
    cases i with
    | zero => simp at h; subst h; simp [Prog.begin]
    | succ i => simp at h
  snd := fun e he => by simp at he
  cmp := fun i hi => absurd hi (Nat.not_lt_zero _)
  cur := fun s _ s' h => by simp at h
  le := Nat.zero_le _
theorem Wd.old {G : Prog} {ps : List Sit} {ed : List (Nat × Nat)} {n j k : Nat} {s s' : Sit} (h : Wd G ps ed n j) (hs : ps[n]? = some s) (hs' : (sucs G s)[j]? = some s') (hk : ps[k]? = some s') : Wd G ps (ed ++ [(n, k)]) n (j + 1) where
  first := h.first
  nd := h.nd
  ok := h.ok
  rch := h.rch
  len := h.len
  snd := fun e he => by
    rcases List.mem_append.mp he with he | he
    · exact h.snd e he
    · rw [List.mem_singleton.mp he]; exact ⟨s, s', hs, hk, List.mem_of_getElem? hs'⟩
  cmp := fun i hi t ht t' ht' => let ⟨k, a, b⟩ := h.cmp i hi t ht t' ht'; ⟨k, List.mem_append_left _ a, b⟩
  cur := fun t ht t' ht' => by
    rw [hs] at ht
    cases ht
    rw [List.take_add_one, hs'] at ht'
    rcases List.mem_append.mp ht' with ht' | ht'
    · obtain ⟨k, a, b⟩ := h.cur s hs t' ht'
      exact ⟨k, List.mem_append_left _ a, b⟩
    · have : t' = s' := by simpa using ht'
      subst this
      exact ⟨k, List.mem_append_right _ (List.mem_singleton.mpr rfl), hk⟩
  le := h.le
theorem Wd.new {G : Prog} (okG : G.Ok) {ps : List Sit} {ed : List (Nat × Nat)} {n j : Nat} {s s' : Sit} (h : Wd G ps ed n j) (hs : ps[n]? = some s) (hs' : (sucs G s)[j]? = some s') (hn : s' ∉ ps) : Wd G (ps ++ [s']) (ed ++ [(n, ps.length)]) n (j + 1) := by
  have hnl := (List.getElem?_eq_some_iff.mp hs).1
  have hm := List.mem_of_getElem? hs'
  have sk := sucs_ok okG (h.ok s (List.mem_of_getElem? hs)) s' hm
  have up : ∀ {i t}, ps[i]? = some t → (ps ++ [s'])[i]? = some t := fun {i t} e => by
    rw [List.getElem?_append_left (List.getElem?_eq_some_iff.mp e).1]; exact e
  have dn : ∀ {i t}, i < ps.length → (ps ++ [s'])[i]? = some t → ps[i]? = some t := fun {i t} hi e => by
    rw [List.getElem?_append_left hi] at e; exact e
  have last : (ps ++ [s'])[ps.length]? = some s' := by simp
  refine ⟨up h.first, ?_, fun t ht => ?_, fun t ht => ?_, fun i t ht => ?_, fun e he => ?_, fun i hi t ht t' ht' => ?_, fun t ht t' ht' => ?_, by rw [List.length_append]; have := h.le; omega⟩
  · rw [List.nodup_append]
    refine ⟨h.nd, by simp, fun a ha b hb e => ?_⟩
    rw [List.mem_singleton.mp hb] at e
    exact hn (e ▸ ha)
  · rcases List.mem_append.mp ht with ht | ht
    · exact h.ok t ht
    · rw [List.mem_singleton.mp ht]; exact sk.1
  · rcases List.mem_append.mp ht with ht | ht
    · exact h.rch t ht
    · rw [List.mem_singleton.mp ht]; exact .step (h.rch s (List.mem_of_getElem? hs)) hm
  · by_cases hi : i < ps.length
    · exact h.len i t (dn hi ht)
    · have hi2 := (List.getElem?_eq_some_iff.mp ht).1
      rw [List.length_append, List.length_singleton] at hi2
      have : i = ps.length := by omega
      subst this
      rw [last] at ht
      cases ht
      have := h.len n s hs
      omega
  · rcases List.mem_append.mp he with he | he
    · obtain ⟨a, b, c, d, e⟩ := h.snd e he
      exact ⟨a, b, up c, up d, e⟩
    · rw [List.mem_singleton.mp he]; exact ⟨s, s', up hs, last, hm⟩
  · have hi2 : i < ps.length := Nat.lt_of_lt_of_le hi h.le
    obtain ⟨k, a, b⟩ := h.cmp i hi t (dn hi2 ht) t' ht'
    exact ⟨k, List.mem_append_left _ a, up b⟩
  · have ht := dn hnl ht
    rw [hs] at ht
    cases ht
    rw [List.take_add_one, hs'] at ht'
    rcases List.mem_append.mp ht' with ht' | ht'
    · obtain ⟨k, a, b⟩ := h.cur s hs t' ht'
      exact ⟨k, List.mem_append_left _ a, up b⟩
    · have : t' = s' := by simpa using ht'
      subst this
      exact ⟨ps.length, List.mem_append_right _ (List.mem_singleton.mpr rfl), last⟩
theorem Wd.next {G : Prog} {ps : List Sit} {ed : List (Nat × Nat)} {n j : Nat} {s : Sit} (h : Wd G ps ed n j) (hs : ps[n]? = some s) (hj : (sucs G s).length ≤ j) : Wd G ps ed (n + 1) 0 where
  first := h.first
  nd := h.nd
  ok := h.ok
  rch := h.rch
  len := h.len
  snd := h.snd
  cmp := fun i hi t ht t' ht' => by
    by_cases c : i < n
    · exact h.cmp i c t ht t' ht'
    · have : i = n := by omega
      subst this
      exact h.cur t ht t' (by
        rw [hs] at ht
        cases ht
        rw [List.take_of_length_le hj]; exact ht')
  cur := fun _ _ _ h => by simp at h
  le := (List.getElem?_eq_some_iff.mp hs).1
theorem sucs_len {G : Prog} (s : Sit) : (sucs G s).length ≤ 2 := by
  obtain ⟨g, fs⟩ := s
  cases fs with
  | nil => simp [sucs]
  | cons f r =>
    simp only [sucs, List.length_map, aft]
    cases G.pts[f.1]? with
    | none => simp
    | some p =>
      simp only [aftP]
      cases p.stm with
      | none => simp
      | some st => cases st <;> simp [goals]
/-- all that is reached stands in the list, where it is whole -/
theorem Wd.all {G : Prog} {ps : List Sit} {ed : List (Nat × Nat)} (h : Wd G ps ed ps.length 0) {s : Sit} (r : Rch G s) : s ∈ ps := by
  induction r with
  | begin => exact List.mem_of_getElem? h.first
  | @step t t' _ hm ih =>
    obtain ⟨i, hi, e⟩ := List.mem_iff_getElem.mp ih
    obtain ⟨k, _, hk⟩ := h.cmp i hi t (by rw [List.getElem?_eq_getElem hi, e]) t' hm
    exact List.mem_of_getElem? hk
/-- one or more steps -/
inductive Tr (G : Prog) : Sit → Sit → Prop
  | one {s s' : Sit} : s' ∈ sucs G s → Tr G s s'
  | more {s t u : Sit} : Tr G s t → u ∈ sucs G t → Tr G s u
inductive Te (ed : List (Nat × Nat)) : Nat → Nat → Nat → Prop
  | one {i j : Nat} : (i, j) ∈ ed → Te ed 0 i j
  | more {n i j k : Nat} : Te ed n i j → (j, k) ∈ ed → Te ed (n + 1) i k
theorem Te.tr {G : Prog} {ps : List Sit} {ed : List (Nat × Nat)} (h : Wd G ps ed ps.length 0) {n i j : Nat} (t : Te ed n i j) : ∀ s s', ps[i]? = some s → ps[j]? = some s' → Tr G s s' := by
  induction t with
  | one e =>
    intro s s' h1 h2
    obtain ⟨a, b, c, d, f⟩ := h.snd _ e
    rw [c] at h1
    rw [d] at h2
    cases h1
    cases h2
    exact .one f
  | more t e ih =>
    intro s s' h1 h2
    obtain ⟨a, b, c, d, f⟩ := h.snd _ e
    rw [d] at h2
    cases h2
    exact .more (ih s a h1 c) f
theorem Tr.te {G : Prog} {ps : List Sit} {ed : List (Nat × Nat)} (h : Wd G ps ed ps.length 0) {s s' : Sit} (t : Tr G s s') : ∀ i, ps[i]? = some s → ∃ n j, Te ed n i j ∧ ps[j]? = some s' := by
  induction t with
  | one m =>
    intro i hi
    obtain ⟨k, a, b⟩ := h.cmp i (List.getElem?_eq_some_iff.mp hi).1 _ hi _ m
    exact ⟨0, k, .one a, b⟩
  | more t m ih =>
    intro i hi
    obtain ⟨n, j, a, b⟩ := ih i hi
    obtain ⟨k, c, d⟩ := h.cmp j (List.getElem?_eq_some_iff.mp b).1 _ b _ m
    exact ⟨n + 1, k, .more a c, d⟩
/-- the place is on a ring -/
theorem Wd.ring {G : Prog} {ps : List Sit} {ed : List (Nat × Nat)} (h : Wd G ps ed ps.length 0) {i : Nat} {s : Sit} (hi : ps[i]? = some s) : (∃ n, Te ed n i i) ↔ Tr G s s := by
  constructor
  · rintro ⟨n, t⟩
    exact t.tr h s s hi hi
  · intro t
    obtain ⟨n, j, a, b⟩ := t.te h i hi
    have hi' := (List.getElem?_eq_some_iff.mp hi)
    have hj' := (List.getElem?_eq_some_iff.mp b)
    have : i = j := (List.getElem_inj h.nd).mp (hi'.2.trans hj'.2.symm)
    subst this
    exact ⟨n, a⟩
end Pr
/-! The law's search of a ring: passes over the edges. Plain Lean. -/
namespace Pr
def hit (bs : List Bool) (e : Nat × Nat) : List Bool := if bs.getD e.1 false = true then bs.set e.2 true else bs
def pass1 (ed : List (Nat × Nat)) (bs : List Bool) : List Bool := ed.foldl hit bs
/-- everywhere at most -/
def LeB (a b : List Bool) : Prop := a.length = b.length ∧ ∀ j, a.getD j false = true → b.getD j false = true
theorem LeB.refl (a : List Bool) : LeB a a := ⟨rfl, fun _ h => h⟩
theorem LeB.trans {a b c : List Bool} (x : LeB a b) (y : LeB b c) : LeB a c := ⟨x.1.trans y.1, fun j h => y.2 j (x.2 j h)⟩
theorem getD_set (bs : List Bool) (i j : Nat) : (bs.set i true).getD j false = true ↔ (j = i ∧ i < bs.length) ∨ bs.getD j false = true := by
  simp only [List.getD, List.getElem?_set]
  by_cases h : i = j
  · subst h
    by_cases h2 : i < bs.length
    · simp [h2]
    · simp [h2]
  · have h' : ¬ j = i := fun e => h e.symm
    simp [h, h']
theorem hit_le (bs : List Bool) (e : Nat × Nat) : LeB bs (hit bs e) := by
  unfold hit
  split
  · exact ⟨by simp, fun j h => (getD_set bs e.2 j).mpr (.inr h)⟩
  · exact LeB.refl bs
theorem pass1_le : ∀ (ed : List (Nat × Nat)) (bs : List Bool), LeB bs (pass1 ed bs)
  | [], bs => LeB.refl bs
  | e :: r, bs => (hit_le bs e).trans (pass1_le r (hit bs e))
theorem pass1_hits : ∀ (ed : List (Nat × Nat)) (bs : List Bool) (e : Nat × Nat), e ∈ ed → bs.getD e.1 false = true → e.2 < bs.length → (pass1 ed bs).getD e.2 false = true
  | [], _, _, h, _, _ => by simp at h
  | d :: r, bs, e, h, h1, h2 => by
    rcases List.mem_cons.mp h with rfl | h
    · refine (pass1_le r (hit bs e)).2 _ ?_
      unfold hit
      rw [if_pos h1]
      exact (getD_set bs e.2 e.2).mpr (.inl ⟨rfl, h2⟩)
    · exact pass1_hits r (hit bs d) e h ((hit_le bs d).2 _ h1) (by rw [← (hit_le bs d).1]; exact h2)
theorem pass1_keep (Q : Nat → Prop) : ∀ (ed : List (Nat × Nat)) (bs : List Bool), (∀ e ∈ ed, Q e.1 → Q e.2) → (∀ j, bs.getD j false = true → Q j) → ∀ j, (pass1 ed bs).getD j false = true → Q j
  | [], _, _, h => h
  | e :: r, bs, hq, h => by
    refine pass1_keep Q r (hit bs e) (fun d hd => hq d (List.mem_cons_of_mem _ hd)) fun j hj => ?_
    unfold hit at hj
    split at hj
    · rename_i c
      rcases (getD_set bs e.2 j).mp hj with ⟨e1, _⟩ | h2
      · rw [e1]; exact hq e (List.mem_cons_self ..) (h _ c)
      · exact h j h2
    · exact h j hj
theorem pass1_closed : ∀ (ed : List (Nat × Nat)) (bs : List Bool), (∀ e ∈ ed, bs.getD e.1 false = true → bs.getD e.2 false = true) → ∀ j, (pass1 ed bs).getD j false = true → bs.getD j false = true := fun ed bs h => pass1_keep (fun j => bs.getD j false = true) ed bs h fun _ h => h
def cnt : List Bool → Nat
  | [] => 0
  | b :: r => (if b = true then 1 else 0) + cnt r
theorem cnt_le_len : ∀ a : List Bool, cnt a ≤ a.length
  | [] => Nat.le_refl _
  | b :: r => by
    have := cnt_le_len r
    simp only [cnt, List.length_cons]
    split <;> omega
theorem cnt_le : ∀ {a b : List Bool}, LeB a b → cnt a ≤ cnt b ∧ ((∃ j, a.getD j false = false ∧ b.getD j false = true) → cnt a < cnt b)
  | [], [], _ => ⟨Nat.le_refl _, fun ⟨j, _, h⟩ => by simp at h⟩
  | [], _ :: _, h => by have := h.1; simp at this
  | _ :: _, [], h => by have := h.1; simp at this
  | x :: a, y :: b, h => by
    have ih := cnt_le (a := a) (b := b) ⟨by have := h.1; simpa using this, fun j hj => by have := h.2 (j + 1); simpa using this (by simpa using hj)⟩
    have h0 : x = true → y = true := by have := h.2 0; simpa using this
    simp only [cnt]
    refine ⟨by cases x <;> cases y <;> simp_all <;> omega, fun ⟨j, h1, h2⟩ => ?_⟩
    cases j with
    | zero =>
      simp at h1 h2
      subst h1 h2
      simp
      omega
    | succ j =>
      have := ih.2 ⟨j, by simpa using h1, by simpa using h2⟩
      cases x <;> cases y <;> simp_all <;> omega
theorem cnt_all : ∀ {a : List Bool}, a.length ≤ cnt a → ∀ j, j < a.length → a.getD j false = true
  | [], _, j, h => by simp at h
  | x :: a, h, j, hj => by
    have := cnt_le_len a
    simp only [cnt, List.length_cons] at h
    cases x with
    | false => simp at h; omega
    | true =>
      cases j with
      | zero => rfl
      | succ j =>
        have := cnt_all (a := a) (by simp at h; omega) j (by simpa using hj)
        simpa using this
def Closed (ed : List (Nat × Nat)) (bs : List Bool) : Prop := ∀ e ∈ ed, bs.getD e.1 false = true → bs.getD e.2 false = true
/-- behind k passes -/
structure Pas (ed : List (Nat × Nat)) (i c k : Nat) (bs : List Bool) : Prop where
  len : bs.length = c
  snd : ∀ j, bs.getD j false = true → ∃ n, Te ed n i j
  fst : ∀ j, (i, j) ∈ ed → bs.getD j false = true
  full : Closed ed bs ∨ k ≤ cnt bs
theorem Pas.next {ed : List (Nat × Nat)} {i c k : Nat} {bs : List Bool} (h : Pas ed i c k bs) (hed : ∀ e ∈ ed, e.1 < c ∧ e.2 < c) : Pas ed i c (k + 1) (pass1 ed bs) := by
  have le := pass1_le ed bs
  refine ⟨by rw [← le.1]; exact h.len, pass1_keep (fun j => ∃ n, Te ed n i j) ed bs (fun e he ⟨n, t⟩ => ⟨n + 1, .more t he⟩) h.snd, fun j hj => le.2 j (h.fst j hj), ?_⟩
  by_cases cl : Closed ed bs
  · left
    intro e he h1
    exact le.2 _ (cl e he (pass1_closed ed bs cl _ h1))
  · right
    have k1 : k ≤ cnt bs := h.full.resolve_left cl
    have : ∃ e ∈ ed, bs.getD e.1 false = true ∧ ¬ bs.getD e.2 false = true := by
      apply Classical.byContradiction
      intro hn
      exact cl fun e he h1 => Classical.byContradiction fun h2 => hn ⟨e, he, h1, h2⟩
    obtain ⟨e, he, h1, h2⟩ := this
    have := (cnt_le le).2 ⟨e.2, Bool.eq_false_iff.mpr h2, pass1_hits ed bs e he h1 (by rw [h.len]; exact (hed e he).2)⟩
    omega
theorem Pas.all {ed : List (Nat × Nat)} {i c : Nat} {bs : List Bool} (h : Pas ed i c c bs) (hed : ∀ e ∈ ed, e.1 < c ∧ e.2 < c) {n j : Nat} (t : Te ed n i j) : bs.getD j false = true := by
  have cl : Closed ed bs := by
    rcases h.full with cl | f
    · exact cl
    · intro e he _
      exact cnt_all (by rw [h.len]; exact f) _ (by rw [h.len]; exact (hed e he).2)
  have fst := h.fst
  clear h
  induction t with
  | one e => exact fst _ e
  | more t e ih => exact cl _ e (ih fst)
/-- the first marks -/
def first1 (i : Nat) (ed : List (Nat × Nat)) (bs : List Bool) : List Bool := ed.foldl (fun bs e => if e.1 = i then bs.set e.2 true else bs) bs
theorem first1_iff (i : Nat) : ∀ (ed : List (Nat × Nat)) (bs : List Bool) (j : Nat), (∀ e ∈ ed, e.2 < bs.length) → ((first1 i ed bs).getD j false = true ↔ (i, j) ∈ ed ∨ bs.getD j false = true) ∧ (first1 i ed bs).length = bs.length
  | [], bs, j, _ => by simp [first1]
  | e :: r, bs, j, h => by
    have step : first1 i (e :: r) bs = first1 i r (if e.1 = i then bs.set e.2 true else bs) := rfl
    have len : (if e.1 = i then bs.set e.2 true else bs).length = bs.length := by split <;> simp
    have ih := first1_iff i r (if e.1 = i then bs.set e.2 true else bs) j (fun d hd => by rw [len]; exact h d (List.mem_cons_of_mem _ hd))
    rw [step]
    refine ⟨?_, ih.2.trans len⟩
    rw [ih.1]
    have he := h e (List.mem_cons_self ..)
    obtain ⟨e1, e2⟩ := e
    by_cases c : e1 = i
    · subst c
      rw [if_pos rfl, getD_set]
      simp only [List.mem_cons, Prod.mk.injEq, true_and]
      constructor
      · rintro (h1 | ⟨h1, _⟩ | h1)
        · exact .inl (.inr h1)
        · exact .inl (.inl h1)
        · exact .inr h1
      · rintro ((h1 | h1) | h1)
        · exact .inr (.inl ⟨h1, he⟩)
        · exact .inl h1
        · exact .inr (.inr h1)
    · rw [if_neg c]
      simp only [List.mem_cons, Prod.mk.injEq]
      constructor
      · rintro (h1 | h1)
        · exact .inl (.inr h1)
        · exact .inr h1
      · rintro ((⟨h1, _⟩ | h1) | h1)
        · exact absurd h1.symm c
        · exact .inl h1
        · exact .inr h1
theorem Pas.start {ed : List (Nat × Nat)} {i c : Nat} (hed : ∀ e ∈ ed, e.1 < c ∧ e.2 < c) : Pas ed i c 0 (first1 i ed (List.replicate c false)) := by
  have f := fun j => first1_iff i ed (List.replicate c false) j (fun e he => by rw [List.length_replicate]; exact (hed e he).2)
  have z : ∀ j, (List.replicate c false).getD j false = false := by
    intro j
    simp only [List.getD, List.getElem?_replicate]
    split <;> rfl
  refine ⟨(f 0).2.trans (List.length_replicate ..), fun j hj => ?_, fun j hj => (f j).1.mpr (.inl hj), .inr (Nat.zero_le _)⟩
  rcases (f j).1.mp hj with h | h
  · exact ⟨0, .one h⟩
  · rw [z] at h; cases h
/-- is the situation's innermost frame at a statement that passes the place -/
def isPass (n : Nat) : Option Sm → Bool
  | some (.pass m) => m == n
  | _ => false
def isAt (G : Prog) (s : Sit) (n : Nat) : Bool :=
  match s.2 with
  | [] => false
  | f :: _ => isPass n ((G.pts[f.1]?).bind (·.stm))
end Pr
/-! Python's equality of situations, of statements: the data's own. -/
namespace Pr
open PySem PySem.Spec PyProof.Rows L2
theorem eqvAll_bools : ∀ a b : List Bool, PyData.eqvAll (a.map .bool) (b.map .bool) = decide (a = b)
  | [], [] => by simp [PyData.eqvAll]
  | [], _ :: _ => by simp [PyData.eqvAll]
  | _ :: _, [] => by simp [PyData.eqvAll]
  | x :: a, y :: b => by
    simp only [List.map_cons, PyData.eqvAll, PyData.eqv, eqvAll_bools a b]
    cases x <;> cases y <;> simp
theorem eqv_bools (a b : List Bool) : PyData.eqv (boolsD a) (boolsD b) = decide (a = b) := by simp only [boolsD, PyData.eqv, eqvAll_bools]
theorem eqv_fr (f g : Fr) : PyData.eqv (frD f) (frD g) = decide (f = g) := by
  obtain ⟨n, l⟩ := f
  obtain ⟨m, l'⟩ := g
  simp only [frD, PyData.eqv, PyData.eqvAll, eqv_bools, Bool.and_true]
  by_cases h : n = m
  · subst h
    simp
  · have : ((n : Int) == (m : Int)) = false := beq_eq_false_iff_ne.mpr (by omega)
    rw [this]
    simp [h]
theorem eqvAll_frs : ∀ a b : List Fr, PyData.eqvAll (a.map frD) (b.map frD) = decide (a = b)
  | [], [] => by simp [PyData.eqvAll]
  | [], _ :: _ => by simp [PyData.eqvAll]
  | _ :: _, [] => by simp [PyData.eqvAll]
  | x :: a, y :: b => by
    simp only [List.map_cons, PyData.eqvAll, eqvAll_frs a b, eqv_fr]
    simp only [List.cons.injEq, Bool.decide_and]
theorem eqv_sit (a b : Sit) : PyData.eqv (sitD a) (sitD b) = decide (a = b) := by
  obtain ⟨g, fs⟩ := a
  obtain ⟨g', fs'⟩ := b
  simp only [sitD, PyData.eqv, PyData.eqvAll, eqv_bools, eqvAll_frs, Bool.and_true]
  simp only [Prod.mk.injEq, Bool.decide_and]
theorem lay_bools (a : List Bool) : PyData.canLayAll0 (a.map .bool) = true := by
  induction a with
  | nil => simp [PyData.canLayAll0]
  | cons x r ih => simp [PyData.canLayAll0, PyData.canLay0, ih]
theorem lay_fr (f : Fr) : PyData.canLay0 (frD f) = true := by simp [frD, boolsD, PyData.canLay0, PyData.canLayAll0, lay_bools]
theorem lay_frs (a : List Fr) : PyData.canLayAll0 (a.map frD) = true := by
  induction a with
  | nil => simp [PyData.canLayAll0]
  | cons x r ih => simp [PyData.canLayAll0, lay_fr, ih]
theorem lay_sit (s : Sit) : PyData.canLay0 (sitD s) = true := by simp [sitD, boolsD, PyData.canLay0, PyData.canLayAll0, lay_bools, lay_frs]
theorem lay_sits (a : List Sit) : PyData.canLayAll0 (a.map sitD) = true := by
  induction a with
  | nil => simp [PyData.canLayAll0]
  | cons x r ih => simp [PyData.canLayAll0, lay_sit, ih]
theorem dep_bools (a : List Bool) : PyData.depthAll (a.map .bool) = 0 := by
  induction a with
  | nil => simp [PyData.depthAll]
  | cons x r ih => simp [PyData.depthAll, PyData.depth, ih]
theorem dep_fr (f : Fr) : PyData.depth (frD f) ≤ 2 := by simp [frD, boolsD, PyData.depth, PyData.depthAll, dep_bools]
theorem dep_frs (a : List Fr) : PyData.depthAll (a.map frD) ≤ 2 := by
  induction a with
  | nil => simp [PyData.depthAll]
  | cons x r ih =>
    have := dep_fr x
    simp only [List.map_cons, PyData.depthAll]
    omega
theorem dep_sit (s : Sit) : PyData.depth (sitD s) ≤ 4 := by
  have := dep_frs s.2
  simp only [sitD, boolsD, PyData.depth, PyData.depthAll, dep_bools]
  omega
theorem dep_sits (a : List Sit) : PyData.depthAll (a.map sitD) ≤ 4 := by
  induction a with
  | nil => simp [PyData.depthAll]
  | cons x r ih =>
    have := dep_sit x
    simp only [List.map_cons, PyData.depthAll]
    omega
theorem shaped_sit (s : Sit) : SeqAt.shaped (sitD s) = true := by
  show (PyData.canLay0 (sitD s) && decide ((sitD s).depth ≤ 64)) = true
  rw [lay_sit, decide_eq_true (by have := dep_sit s; omega)]
  rfl
theorem shaped_sits (a : List Sit) : SeqAt.shaped (.list (a.map sitD)) = true := by
  show (PyData.canLay0 (.list (a.map sitD)) && decide ((PyData.list (a.map sitD)).depth ≤ 64)) = true
  rw [decide_eq_true (by have := dep_sits a; simp only [PyData.depth]; omega)]
  simp only [PyData.canLay0, lay_sits, Bool.and_self]
/-! ### statements -/
theorem lay_vr (v : Vr) : PyData.canLay0 v.d = true := by
  cases v with
  | g i => simp only [Vr.d, PyData.canLay0, PyData.canLayAll0, Bool.and_true]; decide +kernel
  | l i => simp only [Vr.d, PyData.canLay0, PyData.canLayAll0, Bool.and_true]; decide +kernel
theorem lay_ex (e : Ex) : PyData.canLay0 e.d = true := by
  induction e with
  | tr b => simp only [Ex.d, PyData.canLay0, PyData.canLayAll0, Bool.and_true]; decide +kernel
  | of v => simp only [Ex.d, PyData.canLay0, PyData.canLayAll0, Bool.and_true, lay_vr]; decide +kernel
  | no a ih => simp only [Ex.d, PyData.canLay0, PyData.canLayAll0, Bool.and_true, ih]; decide +kernel
  | an a b iha ihb => simp only [Ex.d, PyData.canLay0, PyData.canLayAll0, Bool.and_true, iha, ihb]; decide +kernel
  | oo a b iha ihb => simp only [Ex.d, PyData.canLay0, PyData.canLayAll0, Bool.and_true, iha, ihb]; decide +kernel
  | sm a b iha ihb => simp only [Ex.d, PyData.canLay0, PyData.canLayAll0, Bool.and_true, iha, ihb]; decide +kernel
mutual
theorem lay_sm : ∀ s : Sm, PyData.canLay0 s.d = true
  | .set v e => by simp only [Sm.d, PyData.canLay0, PyData.canLayAll0, Bool.and_true, lay_vr, lay_ex]; decide +kernel
  | .free v => by simp only [Sm.d, PyData.canLay0, PyData.canLayAll0, Bool.and_true, lay_vr]; decide +kernel
  | .call p => by simp only [Sm.d, PyData.canLay0, PyData.canLayAll0, Bool.and_true]; decide +kernel
  | .ite e a b => by simp only [Sm.d, PyData.canLay0, PyData.canLayAll0, Bool.and_true, lay_ex, lay_bd a, lay_bd b]; decide +kernel
  | .ei a b => by simp only [Sm.d, PyData.canLay0, PyData.canLayAll0, Bool.and_true, lay_bd a, lay_bd b]; decide +kernel
  | .wh e b => by simp only [Sm.d, PyData.canLay0, PyData.canLayAll0, Bool.and_true, lay_ex, lay_bd b]; decide +kernel
  | .rp b => by simp only [Sm.d, PyData.canLay0, PyData.canLayAll0, Bool.and_true, lay_bd b]; decide +kernel
  | .ret => by simp only [Sm.d, PyData.canLay0, PyData.canLayAll0, Bool.and_true]; decide +kernel
  | .pass n => by simp only [Sm.d, PyData.canLay0, PyData.canLayAll0, Bool.and_true]; decide +kernel
theorem lay_bd : ∀ b : List Sm, PyData.canLayAll0 (bdD b) = true
  | [] => by simp [bdD, PyData.canLayAll0]
  | s :: r => by simp only [bdD, PyData.canLayAll0, lay_sm s, lay_bd r, Bool.and_self]
end
theorem dep_vr (v : Vr) : PyData.depth v.d ≤ 1 := by cases v <;> simp [Vr.d, PyData.depth, PyData.depthAll]
theorem dep_ex (e : Ex) : PyData.depth e.d ≤ e.deep + 2 := by
  induction e with
  | tr b => simp [Ex.d, PyData.depth, PyData.depthAll]
  | of v =>
    have := dep_vr v
    simp only [Ex.d, PyData.depth, PyData.depthAll]
    omega
  | no a ih => simp only [Ex.d, PyData.depth, PyData.depthAll, Ex.deep]; omega
  | an a b iha ihb => simp only [Ex.d, PyData.depth, PyData.depthAll, Ex.deep]; omega
  | oo a b iha ihb => simp only [Ex.d, PyData.depth, PyData.depthAll, Ex.deep]; omega
  | sm a b iha ihb => simp only [Ex.d, PyData.depth, PyData.depthAll, Ex.deep]; omega
mutual
theorem dep_sm {gc lc np : Nat} : ∀ s : Sm, s.ok gc lc np → PyData.depth s.d ≤ 2 * s.deep + 5
  | .set v e, ok => by
    have h1 := dep_vr v
    have h2 := dep_ex e
    have h3 := ok.2.2
    simp only [Sm.d, PyData.depth, PyData.depthAll]; omega
  | .free v, _ => by
    have h1 := dep_vr v
    simp only [Sm.d, PyData.depth, PyData.depthAll]; omega
  | .call p, _ => by simp only [Sm.d, PyData.depth, PyData.depthAll]; omega
  | .ite e a b, ok => by
    have h2 := dep_ex e
    have h3 := ok.1.2
    have h4 := dep_bd a ok.2.1
    have h5 := dep_bd b ok.2.2
    simp only [Sm.d, PyData.depth, PyData.depthAll, Sm.deep]; omega
  | .ei a b, ok => by
    have h4 := dep_bd a ok.1
    have h5 := dep_bd b ok.2
    simp only [Sm.d, PyData.depth, PyData.depthAll, Sm.deep]; omega
  | .wh e b, ok => by
    have h2 := dep_ex e
    have h3 := ok.1.2
    have h5 := dep_bd b ok.2
    simp only [Sm.d, PyData.depth, PyData.depthAll, Sm.deep]; omega
  | .rp b, ok => by
    have h5 := dep_bd b ok
    simp only [Sm.d, PyData.depth, PyData.depthAll, Sm.deep]; omega
  | .ret, _ => by simp only [Sm.d, PyData.depth, PyData.depthAll]; omega
  | .pass n, _ => by simp only [Sm.d, PyData.depth, PyData.depthAll]; omega
theorem dep_bd {gc lc np : Nat} : ∀ b : List Sm, bdOk gc lc np b → PyData.depthAll (bdD b) ≤ 2 * bdP b + 5
  | [], _ => by simp only [bdD, PyData.depthAll]; omega
  | s :: r, ok => by
    have h1 := dep_sm s ok.1
    have h2 := dep_bd r ok.2
    simp only [bdD, PyData.depthAll, bdP]; omega
end
theorem shaped_sm {gc lc np : Nat} {s : Sm} (ok : s.ok gc lc np) (h : s.deep ≤ 3) : SeqAt.shaped s.d = true := by
  show (PyData.canLay0 s.d && decide (s.d.depth ≤ 64)) = true
  rw [lay_sm, decide_eq_true (by have := dep_sm s ok; omega)]
  rfl
theorem tag_ne (a b : Str) (h : (a == b) = false) (x : List PyData) (y : List PyData) : PyData.eqv (.tuple (.str a :: x)) (.tuple (.str b :: y)) = false := by simp only [PyData.eqv, PyData.eqvAll, h, Bool.false_and]
theorem eqv_pass (s : Sm) (n : Nat) : PyData.eqv s.d (.tuple [.str "pass", .int n]) = isPass n (some s) := by
  cases s with
  | pass m =>
    simp only [Sm.d, PyData.eqv, PyData.eqvAll, isPass, Bool.and_true, beq_self_eq_true, Bool.true_and]
    by_cases h : m = n
    · subst h; simp
    · have : ((m : Int) == (n : Int)) = false := beq_eq_false_iff_ne.mpr (by omega)
      rw [this]; simp [h]
  | set v e => rw [Sm.d]; exact tag_ne _ _ (by decide +kernel) _ _
  | free v => rw [Sm.d]; exact tag_ne _ _ (by decide +kernel) _ _
  | call q => rw [Sm.d]; exact tag_ne _ _ (by decide +kernel) _ _
  | ite e a b => rw [Sm.d]; exact tag_ne _ _ (by decide +kernel) _ _
  | ei a b => rw [Sm.d]; exact tag_ne _ _ (by decide +kernel) _ _
  | wh e b => rw [Sm.d]; exact tag_ne _ _ (by decide +kernel) _ _
  | rp b => rw [Sm.d]; exact tag_ne _ _ (by decide +kernel) _ _
  | ret => rw [Sm.d]; exact tag_ne _ _ (by decide +kernel) _ _
theorem shaped_pass (n : Nat) : SeqAt.shaped (.tuple [.str "pass", .int n]) = true := shaped_sm (gc := 0) (lc := 0) (np := 0) (s := .pass 0) (Nat.zero_le _) (Nat.zero_le _) |> fun _ => by
  show (PyData.canLay0 (.tuple [.str "pass", .int n]) && decide ((PyData.tuple [.str "pass", .int n]).depth ≤ 64)) = true
  have h := lay_sm (.pass n)
  rw [Sm.d] at h
  rw [h, decide_eq_true (by simp [PyData.depth, PyData.depthAll])]
  rfl
end Pr
/-! The program's machine, its marks. -/
namespace Pr
open PySem PySem.Spec PyProof.Rows L2 RT
open C8 (Cal Met Mak pe_c pe_mk pe_mt pe_mt0)
theorem frs_at (G : Prog) : ∀ (ps : List Pt) (a pl i : Nat) (p : Pt) (l : List Bool), ps[i]? = some p → l.length = G.lc p.proc → ∃ n, (fsts G a ps)[i]? = some (a + n) ∧ (frs G pl ps)[n + num l]? = some (pl + i, l)
  | [], _, _, _, _, _, h, _ => by simp at h
  | q :: r, a, pl, 0, p, l, h, hl => by
    cases (show some q = some p from h)
    refine ⟨0, rfl, ?_⟩
    have hn := num_lt l
    rw [hl] at hn
    simp only [frs, Nat.zero_add]
    rw [List.getElem?_append_left (by simpa using hn), List.getElem?_map, List.getElem?_range hn]
    show some (pl, vals (num l) (G.lc q.proc)) = _
    rw [← hl, vals_num]
    rfl
  | q :: r, a, pl, i + 1, p, l, h, hl => by
    obtain ⟨n, h1, h2⟩ := frs_at G r (a + 2 ^ G.lc q.proc) (pl + 1) i p l (by simpa using h) hl
    refine ⟨2 ^ G.lc q.proc + n, ?_, ?_⟩
    · simp only [fsts, List.getElem?_cons_succ, h1, Nat.add_assoc]
    · simp only [frs]
      rw [List.getElem?_append_right (by simp; omega)]
      simp only [List.length_map, List.length_range]
      rw [show 2 ^ G.lc q.proc + n + num l - 2 ^ G.lc q.proc = n + num l by omega, h2]
      congr 2
      omega
theorem letter_at {G : Prog} {f : Fr} (h : FrOk G f) : G.frames[G.letter f]? = some f := by
  obtain ⟨p, hp, hl⟩ := h
  obtain ⟨n, h1, h2⟩ := frs_at G G.pts 0 0 f.1 p f.2 hp hl
  unfold Prog.letter Prog.frames
  have e : G.firsts.getD f.1 0 = n := by
    unfold Prog.firsts
    simp [List.getD, h1]
  rw [e, h2, Nat.zero_add]
theorem letter_lt {G : Prog} {f : Fr} (h : FrOk G f) : G.letter f < G.frames.length := (List.getElem?_eq_some_iff.mp (letter_at h)).1
structure StOk (G : Prog) (st : Stp) : Prop where
  s : st.st < 2 ^ G.gc
  g : st.go < 2 ^ G.gc
  l : st.lt < G.frames.length
  n : st.la.length ≤ 2
  a : ∀ n ∈ st.la, n < G.frames.length
theorem steps1_ok {G : Prog} (ok : G.Ok) {n s : Nat} (hn : n < G.frames.length) (hs : s < 2 ^ G.gc) : ∀ st ∈ G.steps1 n s, StOk G st := by
  intro st h
  unfold Prog.steps1 at h
  obtain ⟨f, hf⟩ : ∃ f, G.frames[n]? = some f := ⟨_, List.getElem?_eq_getElem hn⟩
  rw [hf] at h
  simp only [List.mem_map] at h
  obtain ⟨x, hx, rfl⟩ := h
  obtain ⟨q1, q2, q3⟩ := aft_ok ok (vals_len G.gc s) (frames_ok (List.mem_of_getElem? hf)) x hx
  refine ⟨hs, ?_, hn, by simpa using q3, fun m hm => ?_⟩
  · have := num_lt x.1
    rw [q1] at this
    exact this
  · obtain ⟨y, hy, rfl⟩ := List.mem_map.mp hm
    exact letter_lt (q2 y hy)
theorem mach_ok {G : Prog} (ok : G.Ok) : ∀ st ∈ G.mach, StOk G st := by
  intro st h
  unfold Prog.mach at h
  obtain ⟨l, hl, h⟩ := List.mem_flatMap.mp h
  obtain ⟨s, hs, h⟩ := List.mem_flatMap.mp h
  exact steps1_ok ok (List.mem_range.mp hl) (List.mem_range.mp hs) st h
theorem steps1_len {G : Prog} {n s : Nat} : (G.steps1 n s).length ≤ 2 := by
  unfold Prog.steps1
  cases hf : G.frames[n]? with
  | none => simp
  | some f =>
    simp only [List.length_map]
    obtain ⟨p, hp, _⟩ := frames_ok (List.mem_of_getElem? hf)
    unfold aft
    rw [hp]
    simp only [aftP]
    cases p.stm with
    | none => simp
    | some st => cases st <;> simp [goals]
theorem flat_len {α : Type} (f : Nat → List α) (c : Nat) : ∀ n, (∀ i, (f i).length ≤ c) → ((List.range n).flatMap f).length ≤ n * c
  | 0, _ => by simp
  | n + 1, h => by
    rw [List.range_succ, List.flatMap_append, List.length_append]
    have h1 := flat_len f c n h
    have h2 := h n
    simp only [List.flatMap_cons, List.flatMap_nil, List.append_nil]
    rw [Nat.succ_mul]
    omega
theorem flat_succ {α : Type} (f : Nat → List α) (n : Nat) : (List.range (n + 1)).flatMap f = (List.range n).flatMap f ++ f n := by
  rw [List.range_succ, List.flatMap_append]
  simp
section
variable {P : Program} {w : World} {K : PySem.W.Frag} {mg : Str → Option Value} {base : Heap}
def sp_fits (K : PySem.W.Frag) : Sp := fun vs H Q _ => ∃ (v : V) (S L : Nat) (st : Stp), vs = [v, .int S, .int L] ∧ StV K H st v ∧ st.st < S ∧ st.go < S ∧ st.lt < L ∧ st.la.length ≤ 2 ∧ (∀ n ∈ st.la, n < L) ∧ ∀ H', Same H H' → Q (.bl true) H'
abbrev n_fits : List Str := ["step", "states", "letters", "letter"]
theorem sc_fits : FnScope n_fits ["step", "states", "letters"] (defScope s_fits) := ⟨rfl, rfl, rfl, by decide +kernel, rfl, by decide +kernel, by decide +kernel⟩
theorem ok_fits (T : Env K mg) : Cal P w K mg base 1 "fits" (sp_fits K) [] := by
  obtain ⟨fd, F⟩ := T.F_fits
  refine cal_by F T.g_fits (F.bindsN fun _ _ _ _ _ _ us hl => match us, hl with | [_, _, _], _ => rfl) sc_fits (fun vs H Q E h => ?_) (fun cdv A outer s H vs Q E hr h => ?_)
  · obtain ⟨v, S, L, st, rfl, _⟩ := h
    rfl
  obtain ⟨v, S, L, st, rfl, ⟨o, dx, t, rfl, ho, ht⟩, h1, h2, h3, h4, h5, k⟩ := h
  refine ⟨_, pss_cons (ps_if (PW.pt (pw_or (pt_not (pt_chain op_le op_lt pe_int (pe_fld (pv 0) rfl) (pv 1) (by with_unfolding_all rfl))) (pw_or (pt_not (pt_chain op_le op_lt pe_int (pe_fld (pv 0) rfl) (pv 1) (by with_unfolding_all rfl))) (pw_or1 (pt_not (pt_chain op_le op_lt pe_int (pe_fld (pv 0) rfl) (pv 2) (by with_unfolding_all rfl)))))))
        (pss_one (ps_ret pe_bl))
        pss_nil)
      (pss_cons (ps_if (PW.pt (pw_or (pt_cmpR op_gt (pe_callB call_len_seq (by rfl) T.f_len (by decide +kernel) (pa_cons (pe_fld (pv 0) rfl) pa_nil)) pe_int (nomark _)) (pw_or1 (pt_cmpR op_lt (pe_fld (pv 0) rfl) pe_int (nomark _)))))
        (pss_one (ps_ret pe_bl))
        pss_nil)
      (pss_one (ps_ret (pe_callB (cr_all rfl) (by rfl) T.f_all (by decide +kernel) (pa_cons (pe_lc (own := [("letter", 3)]) (g := gName 3) (by rfl) sc_fits.nd (pi_tup (pe_fld (pv 0) rfl)) (blkOk_by (own := [("letter", 3)]) (N := n_fits) (sc := defScope s_fits) (by decide +kernel)) (fun _ _ _ _ _ => (pg_name (i := 3) sc_fits.nd rfl (Or.inl rfl))) (fun _ _ _ _ _ => pts_nil) (fun _ _ _ _ _ => (pe_chain op_le op_lt pe_int (pv 3) (pv 2) (by with_unfolding_all rfl)))) pa_nil))))), ?_⟩
  refine ⟨_, rfl, o, _, dx, _, _, rfl, ho, T.c_Step, T.n_Step_state, rfl, _, _, rfl, rfl, _, rfl, if_t (decide_eq_true (by omega)) ⟨_, rfl, _, _, rfl, rfl, _, rfl, if_f (by rw [decide_eq_true (by omega)]; rfl) ?_⟩⟩
  refine ⟨_, rfl, o, _, dx, _, _, rfl, ho, T.c_Step, T.n_Step_goal, rfl, _, _, rfl, rfl, _, rfl, if_t (decide_eq_true (by omega)) ⟨_, rfl, _, _, rfl, rfl, _, rfl, if_f (by rw [decide_eq_true (by omega)]; rfl) ?_⟩⟩
  refine ⟨_, rfl, o, _, dx, _, _, rfl, ho, T.c_Step, T.n_Step_letter, rfl, _, _, rfl, rfl, _, rfl, if_t (decide_eq_true (by omega)) ⟨_, rfl, _, _, rfl, rfl, _, rfl, if_f (by rw [decide_eq_true (by omega)]; rfl) ?_⟩⟩
  have hl : (st.la.map fun n : Nat => V.int (n : Int)).length = st.la.length := List.length_map ..
  refine ⟨_, rfl, o, _, dx, _, _, rfl, ho, T.c_Step, T.n_Step_laid, rfl, t, _, rfl, .inr (SqT.of ht), _, _, rfl, rfl, _, rfl, if_f (decide_eq_false (by rw [hl]; omega)) ?_⟩
  refine ⟨_, rfl, o, _, dx, _, _, rfl, ho, T.c_Step, T.n_Step_weight, rfl, _, _, rfl, rfl, _, rfl, if_f (decide_eq_false (by omega)) ?_⟩
  refine ⟨_, rfl, o, _, dx, _, _, rfl, ho, T.c_Step, T.n_Step_laid, rfl, t, rfl, ⟨_, SqT.of ht⟩, fun D hD => ?_⟩
  refine lc_it (walk_tup (K := K) (a := t) (xs := st.la.map fun n : Nat => V.int (n : Int))) (fun j H3 => Same H H3 ∧ H3 D = some (.lst ((List.replicate j true).map V.bl))) ⟨same_upd hD, upd_same⟩ (fun j H3 _ z => SqT.of (z.1 _ _ ht)) ?_ ?_
  · rintro j y _ H3 hj ⟨sm3, hD3⟩ ⟨rfl, hyj⟩
    rw [List.getElem?_map] at hyj
    obtain ⟨n, hn, rfl⟩ := Option.map_eq_some_iff.mp hyj
    have hnl := h5 n (List.mem_of_getElem? hn)
    refine ⟨rfl, ?_⟩
    dsimp only [tYes]
    refine iteT ?_
    refine ⟨_, rfl, _, _, rfl, rfl, _, rfl, if_t (decide_eq_true (by omega)) ⟨_, rfl, _, _, rfl, rfl, _, hD3, smallL (by rw [List.length_map, List.length_replicate]; omega), sm3.mut hD, ?_⟩⟩
    rw [upd_same, List.replicate_succ', List.map_append]
    show some (HO.lst (_ ++ [V.bl (decide ((n : Int) < (L : Int)))])) = _
    rw [decide_eq_true (Int.ofNat_lt.mpr hnl)]
    rfl
  · rintro H3 ⟨sm3, hD3⟩
    refine ⟨D, _, rfl, SqL.of hD3, ?_⟩
    rw [show (List.replicate (st.la.map fun n : Nat => V.int (n : Int)).length true).all id = true by simp]
    exact k H3 sm3
/-- the machine -/
def McAt (K : PySem.W.Frag) (H : Hp) (a : Addr) (sts : List Stp) : Prop := ∃ (dx t : Addr) (S L : Nat) (xs : List V), H a = some (.ins (He.ga K "Machine") dx [("states", .int S), ("letters", .int L), ("steps", .ref t)]) ∧ H t = some (.tup xs) ∧ AllV (StV K H) sts xs
theorem McAt.same {H H' : Hp} {a : Addr} {sts : List Stp} (h : McAt K H a sts) (e : Same H H') : McAt K H' a sts := let ⟨dx, t, S, L, xs, h1, h2, h3⟩ := h; ⟨dx, t, S, L, xs, e _ _ h1, e _ _ h2, h3.imp fun _ _ z => z.same e⟩
def sp_mach (K : PySem.W.Frag) : Sp := fun vs H Q _ => ∃ (x dx l : Addr) (S L : Nat) (xs : List V) (sts : List Stp) (H0 : Hp), vs = [.ref x, .int S, .int L, .ref l] ∧ Same H0 H ∧ H0 x = none ∧ H x = some (.ins (He.ga K "Machine") dx []) ∧ 1 ≤ S ∧ 1 ≤ L ∧ H0 l = some (.lst xs) ∧ AllV (StV K H0) sts xs ∧ xs.length ≤ 10000 ∧
  (∀ st ∈ sts, st.st < S ∧ st.go < S ∧ st.lt < L ∧ st.la.length ≤ 2 ∧ ∀ n ∈ st.la, n < L) ∧ ∀ H', Same H0 H' → McAt K H' x sts → Q .non H'
abbrev n_Machine___init__ : List Str := ["self", "states", "letters", "steps", "step"]
theorem sc_Machine___init__ : FnScope n_Machine___init__ ["self", "states", "letters", "steps"] (defScope s_Machine___init__) := ⟨rfl, rfl, rfl, by decide +kernel, rfl, by decide +kernel, by decide +kernel⟩
theorem ok_mach (T : Env K mg) (c_fits : Cal P w K mg base 1 "fits" (sp_fits K) []) : Mak P w K mg base 2 "Machine" (He.ga K "Machine") (sp_mach K) [] := by
  obtain ⟨fd, F⟩ := T.F_Machine___init__
  refine mak_by F T.k_Machine T.g_Machine (F.bindsN fun _ _ _ _ _ _ us hl => match us, hl with | [_, _, _, _], _ => rfl) .nil sc_Machine___init__ (fun vs H Q E h => ?_) (fun cdv A outer s H vs Q E hr h => ?_)
  · obtain ⟨x, dx, l, S, L, xs, sts, H0, rfl, _⟩ := h
    rfl
  obtain ⟨x, dx, l, S, L, xs, sts, H0, rfl, sm, hx0, hx, hS, hL, hl, hxs, h1000, hok, fin⟩ := h
  refine ⟨_, pss_cons (ps_if (PW.pt (pw_or (pt_cmpR op_lt (pv 1) pe_int (nomark _)) (pw_or (pt_cmpR op_lt (pv 2) pe_int (nomark _)) (pw_or1 (pt_not (pt_val (pe_callB (cr_all rfl) (by rfl) T.f_all (by decide +kernel) (pa_cons (pe_lc (own := [("step", 4)]) (g := gName 4) (by rfl) sc_Machine___init__.nd (pi_list (pv 3)) (blkOk_by (own := [("step", 4)]) (N := n_Machine___init__) (sc := defScope s_Machine___init__) (by decide +kernel)) (fun _ _ _ _ _ => (pg_name (i := 4) sc_Machine___init__.nd rfl (Or.inl rfl))) (fun _ _ _ _ _ => pts_nil) (fun _ _ _ _ _ => (pe_c c_fits hr (by omega) rfl (pa_cons (pv 4) (pa_cons (pv 1) (pa_cons (pv 2) pa_nil)))))) pa_nil))))))))
        (pss_one ps_never)
        pss_nil)
      (pss_cons (ps_fld (pv 0) (pv 1) rfl)
      (pss_cons (ps_fld (pv 0) (pv 2) rfl)
      (pss_one (ps_fld (pv 0) (pe_callTy call_tuple_of (by rfl) T.f_tuple (by decide +kernel) (pa_cons (pv 3) pa_nil)) rfl)))), ?_⟩
  refine ⟨_, rfl, _, _, rfl, rfl, _, rfl, if_f (decide_eq_false (by omega)) ⟨_, rfl, _, _, rfl, rfl, _, rfl, if_f (decide_eq_false (by omega)) ?_⟩⟩
  refine ⟨_, rfl, l, rfl, ⟨_, SqL.of (sm _ _ hl)⟩, fun D hD => ?_⟩
  have hD0 := sm.free hD
  refine lc_it (walk_list (K := K) (a := l) (xs := xs)) (fun j H3 => Same H H3 ∧ H3 D = some (.lst ((List.replicate j true).map V.bl))) ⟨same_upd hD, upd_same⟩ (fun j H3 _ z => SqL.of (z.1 _ _ (sm _ _ hl))) ?_ ?_
  · rintro j y _ H3 hj ⟨sm3, hD3⟩ ⟨rfl, hyj⟩
    obtain ⟨st, hst, hv⟩ := hxs.2 j y hyj
    obtain ⟨o1, o2, o3, o4, o5⟩ := hok st (List.mem_of_getElem? hst)
    refine ⟨rfl, ?_⟩
    dsimp only [tYes]
    refine iteT ?_
    refine ⟨_, rfl, _, rfl, _, rfl, y, S, L, st, rfl, hv.same (sm.trans sm3), o1, o2, o3, o4, o5, fun H4 s4 => ⟨_, s4 _ _ hD3, smallL (by rw [List.length_map, List.length_replicate]; omega), (sm3.trans s4).mut hD, ?_⟩⟩
    rw [upd_same, List.replicate_succ', List.map_append]
    rfl
  · rintro H3 ⟨sm3, hD3⟩
    refine ⟨D, _, rfl, SqL.of hD3, ?_⟩
    rw [show (List.replicate xs.length true).all id = true by simp]
    refine ⟨_, rfl, if_f rfl ?_⟩
    have s3 := sm.trans sm3
    refine ⟨_, rfl, _, rfl, x, _, dx, _, rfl, sm3 _ _ hx, T.c_Machine, T.n_Machine_states, (by show 0 < 1000; decide), ?_⟩
    refine ⟨_, rfl, _, rfl, x, _, dx, _, rfl, upd_same, T.c_Machine, T.n_Machine_letters, (by show 1 < 1000; decide), ?_⟩
    rw [upd_upd]
    have s4 := s3.mut (o := .ins (He.ga K "Machine") dx (putF "letters" (.int L) (putF "states" (.int S) []))) hx0
    have hx4 : (upd H3 x (.ins (He.ga K "Machine") dx (putF "letters" (.int L) (putF "states" (.int S) [])))) x = some (.ins (He.ga K "Machine") dx (putF "letters" (.int L) (putF "states" (.int S) []))) := upd_same
    refine ⟨_, rfl, l, _, rfl, .inl ⟨SqL.of (s4 _ _ hl), fun t ht => ?_⟩⟩
    have s5 := s4.new (o := .tup xs) ht
    refine ⟨_, rfl, x, _, dx, _, rfl, same_upd ht _ _ hx4, T.c_Machine, T.n_Machine_steps, (by show 2 < 1000; decide), ?_⟩
    have ne : t ≠ x := Ne.symm (ne_of_none hx4 ht)
    have s6 := s5.mut (o := .ins (He.ga K "Machine") dx (putF "steps" (.ref t) (putF "letters" (.int L) (putF "states" (.int S) [])))) hx0
    exact fin _ s6 ⟨dx, t, S, L, xs, upd_same, by rw [upd_ne ne]; exact upd_same, hxs.imp fun _ _ z => z.same s6⟩
def sp_macho (K : PySem.W.Frag) : Sp := fun vs H Q _ => ∃ (pg : Addr) (G : Prog), vs = [.ref pg] ∧ PgAt K H pg G ∧ G.Ok ∧ ∀ (a : Addr) (H' : Hp), Same H H' → McAt K H' a G.mach → Q (.ref a) H'
abbrev n_machine_of : List Str := ["program", "coder", "states", "steps", "letter", "state"]
theorem sc_machine_of : FnScope n_machine_of ["program"] (defScope s_machine_of) := ⟨rfl, rfl, rfl, by decide +kernel, rfl, by decide +kernel, by decide +kernel⟩
theorem ok_macho (T : Env K mg) (c_Coder : Mak P w K mg base 11 "Coder" (He.ga K "Coder") (sp_coder K) []) (c_twos : Cal P w K mg base 1 "twos" sp_twos []) (c_Coder_steps : Met P w K mg base 6 (He.ga K "Coder") "steps" (sp_steps K) []) (c_Machine : Mak P w K mg base 2 "Machine" (He.ga K "Machine") (sp_mach K) []) :
    Cal P w K mg base 13 "machine_of" (sp_macho K) [] := by
  obtain ⟨fd, F⟩ := T.F_machine_of
  refine cal_by F T.g_machine_of (F.bindsN fun _ _ _ _ _ _ us hl => match us, hl with | [_], _ => rfl) sc_machine_of (fun vs H Q E h => ?_) (fun cdv A outer s H vs Q E hr h => ?_)
  · obtain ⟨pg, G, rfl, _⟩ := h
    rfl
  obtain ⟨pg, G, rfl, hpg, ok, k⟩ := h
  refine ⟨_, pss_cons (ps_set (i := 1) sc_machine_of.nd rfl (Or.inl rfl) (pe_mk c_Coder hr (by omega) rfl (pa_cons (pv 0) pa_nil)))
      (pss_cons (ps_set (i := 2) sc_machine_of.nd rfl (Or.inl rfl) (pe_c c_twos hr (by omega) rfl (pa_cons (pe_fld (pv 0) rfl) pa_nil)))
      (pss_cons (ps_set (i := 3) sc_machine_of.nd rfl (Or.inl rfl) (pe_lst pa_nil))
      (pss_cons (ps_for PassesOwn.never rfl (pi_range1 rfl T.f_range (pa_cons (pe_callB call_len_seq (by rfl) T.f_len (by decide +kernel) (pa_cons (pe_fld (pv 1) rfl) pa_nil)) pa_nil)) (pg_name (i := 4) sc_machine_of.nd rfl (Or.inl rfl))
        (pss_one (ps_for PassesOwn.never rfl (pi_range1 rfl T.f_range (pa_cons (pv 2) pa_nil)) (pg_name (i := 5) sc_machine_of.nd rfl (Or.inl rfl))
          (pss_one (ps_expr (pe_bm PySem.F.plainAttrs_list PySem.F.slot_list_extend PySem.F.type_list_extend mt_extend (pv 3) (pa_cons (pe_mt c_Coder_steps hr (by omega) (pv 1) (pa_cons (pv 4) (pa_cons (pv 5) pa_nil))) pa_nil)))))))
      (pss_one (ps_ret (pe_mk c_Machine hr (by omega) rfl (pa_cons (pv 2) (pa_cons (pe_callB call_len_seq (by rfl) T.f_len (by decide +kernel) (pa_cons (pe_fld (pv 1) rfl) pa_nil)) (pa_cons (pv 3) pa_nil))))))))), ?_⟩
  have gc := ok.gc
  have F20 := ok.frs20
  refine ⟨_, rfl, fun x dx h1 h2 h3 => ⟨x, dx, pg, G, H, rfl, made h1 h2, h1, upd_same, hpg, ok, fun H1 s1 hc => ⟨rfl, ?_⟩⟩⟩
  obtain ⟨dpg, tt, pxs, p1, p2, p3⟩ := hpg.same s1
  refine ⟨_, rfl, pg, _, dpg, _, _, rfl, p1, T.c_Program, T.n_Program_global_count, rfl, G.gc, rfl, by omega, ?_⟩
  obtain ⟨N, hN⟩ : ∃ N, 2 ^ G.gc = N := ⟨_, rfl⟩
  have hN4 : N ≤ 4 := by
    rw [← hN]
    exact Nat.pow_le_pow_right (n := 2) (by decide) gc
  have hN1 : 1 ≤ N := by
    rw [← hN]
    exact Nat.one_le_two_pow
  rw [hN]
  refine ⟨Nat.zero_le _, fun fd hfd => ?_⟩
  have s2 := s1.new (o := .lst []) hfd
  have hc2 := hc.same (same_upd (o := .lst []) hfd)
  have hfd2 : (upd H1 fd (.lst [])) fd = some (.lst []) := upd_same
  have hfd0 := s1.free hfd
  have sB0 := same_upd (o := .lst []) hfd
  generalize upd H1 fd (.lst []) = H2 at *
  have hcB : ∀ {H3 : Hp}, SameB (· = fd) H2 H3 → CdAt K H1 x G → Same H1 H3 := fun sb _ => same_b sB0 sb fun c z => by rw [z]; exact hfd
  obtain ⟨dxc, pg', wk, lf, lr, fxs, c1, c2, c3, c4, c5, c6⟩ := id hc2
  have fxl : fxs.length = G.frames.length := by rw [c6.len, List.length_map]
  refine ⟨_, rfl, x, _, dxc, _, _, rfl, c1, T.c_Coder, T.n_Coder_frames, rfl, lr, _, rfl, .inl (SqL.of c5), ?_⟩
  rw [fxl]
  refine ⟨_, rfl, by omega, by omega, ?_⟩
  refine for_range (n := (G.frames.length : Int).toNat) (fun i σ H3 => ∃ (x4 x5 : Option V) (ys : List V), σ = [some (.ref pg), some (.ref x), some (.int N), some (.ref fd), x4, x5] ∧ Same H1 H3 ∧ H3 fd = some (.lst ys) ∧ AllV (StV K H3) ((List.range i).flatMap fun l => (List.range N).flatMap fun s => G.steps1 l s) ys)
    ⟨_, _, [], rfl, sB0, hfd2, .nil⟩ ?_ ?_
  · rintro i σ H3 hi ⟨x4, x5, ys, rfl, s3, hfd3, hys⟩
    rw [Int.toNat_natCast] at hi
    refine ⟨_, rfl, _, rfl, by omega, by omega, ?_⟩
    refine for_range (n := (N : Int).toNat) (fun j σ H4 => ∃ (x5 : Option V) (zs : List V), σ = [some (.ref pg), some (.ref x), some (.int N), some (.ref fd), some (.int (i : Nat)), x5] ∧ Same H1 H4 ∧ H4 fd = some (.lst zs) ∧ AllV (StV K H4) (((List.range i).flatMap fun l => (List.range N).flatMap fun s => G.steps1 l s) ++ (List.range j).flatMap fun s => G.steps1 i s) zs)
      ⟨_, ys, (by rw [Int.zero_add]; rfl), s3, hfd3, by simpa using hys⟩ ?_ ?_
    · rintro j σ H4 hj ⟨x5, zs, rfl, s4, hfd4, hzs⟩
      rw [Int.toNat_natCast] at hj
      have hc4 := hc.same s4
      obtain ⟨dx4, _, _, _, _, _, d1, _⟩ := id hc4
      have zl : zs.length ≤ i * (N * 2) + j * 2 := by
        rw [hzs.1, List.length_append]
        have h1 := flat_len (fun l => (List.range N).flatMap fun s => G.steps1 l s) (N * 2) i fun l => flat_len _ 2 N fun s => steps1_len
        have h2 := flat_len (fun s => G.steps1 i s) 2 j fun s => steps1_len
        omega
      have zl2 : zs.length ≤ 1000 := by
        have : i * (N * 2) ≤ 20 * 8 := Nat.mul_le_mul (by omega) (by omega)
        omega
      refine ⟨_, rfl, .inl ⟨rfl, _, SqL.of hfd4⟩, _, rfl, x, dx4, _, rfl, d1, rfl, _, rfl, _, rfl, x, i, j, G, (by rw [Int.zero_add]; rfl), hc4, ok, by omega, fun r rs H5 s5 hr5 hrs => ?_⟩
      have rl : rs.length ≤ 2 := by rw [hrs.1]; exact steps1_len
      refine ⟨fd, r, zs, rs, rfl, rfl, s5 _ _ hfd4, hr5, small (by omega), ?_⟩
      have hfd5 := s5 _ _ hfd4
      have keep : ∀ {st : Stp} {v : V}, StV K H5 st v → StV K (upd H5 fd (.lst (zs ++ rs))) st v := fun ⟨o, dx, t, e1, e2, e3⟩ =>
        ⟨o, dx, t, e1, by rw [upd_ne (fun z => by rw [z, hfd5] at e2; cases e2)]; exact e2, by rw [upd_ne (fun z => by rw [z, hfd5] at e3; cases e3)]; exact e3⟩
      refine ⟨_, zs ++ rs, rfl, (s4.trans s5).mut hfd, upd_same, ?_⟩
      rw [flat_succ, ← List.append_assoc]
      exact (hzs.imp fun _ _ z => keep (z.same s5)).app (hrs.imp fun _ _ z => keep z)
    · rintro σ H4 ⟨x5, zs, rfl, s4, hfd4, hzs⟩
      rw [Int.toNat_natCast] at hzs
      exact ⟨_, _, zs, rfl, s4, hfd4, by rw [flat_succ]; exact hzs⟩
  · rintro σ H3 ⟨x4, x5, ys, rfl, s3, hfd3, hys⟩
    rw [Int.toNat_natCast] at hys
    obtain ⟨dx4, _, _, _, lr4, xs4, d1, _, _, _, d5, d6⟩ := hc.same s3
    have xl4 : xs4.length = G.frames.length := by rw [d6.len, List.length_map]
    have hmach : ((List.range G.frames.length).flatMap fun l => (List.range N).flatMap fun s => G.steps1 l s) = G.mach := by unfold Prog.mach; rw [hN]
    rw [hmach] at hys
    have ylen : ys.length ≤ 10000 := by
      rw [hys.1, ← hmach]
      have h1 := flat_len (fun l => (List.range N).flatMap fun s => G.steps1 l s) (N * 2) G.frames.length fun l => flat_len _ 2 N fun s => steps1_len
      have : G.frames.length * (N * 2) ≤ 20 * 8 := Nat.mul_le_mul (by omega) (by omega)
      omega
    have F1 : 1 ≤ G.frames.length := Nat.lt_of_le_of_lt (Nat.zero_le _) (letter_lt (entry_ok (G := G) (k := 0) ok.n1))
    refine ⟨_, rfl, _, rfl, x, _, dx4, _, _, rfl, d1, T.c_Coder, T.n_Coder_frames, rfl, lr4, _, rfl, .inl (SqL.of d5), _, rfl, fun mx mdx h1 h2 h3 => ?_⟩
    rw [xl4]
    refine ⟨mx, mdx, fd, N, G.frames.length, ys, G.mach, H3, rfl, made h1 h2, h1, upd_same, hN1, F1, hfd3, hys, ylen, fun st hst => ?_, fun H4 s4 hm => ⟨rfl, k mx H4 ((s1.trans s3).trans s4) hm⟩⟩
    obtain ⟨o1, o2, o3, o4, o5⟩ := mach_ok ok st hst
    rw [hN] at o1 o2
    exact ⟨o1, o2, o3, o4, o5⟩
def sp_conf (K : PySem.W.Frag) : Sp := fun vs H Q _ => ∃ (pg : Addr) (v : V) (s : Sit) (G : Prog), vs = [.ref pg, v] ∧ PgAt K H pg G ∧ G.Ok ∧ Rp H (sitD s) v ∧ SitOk G s ∧ s.2.length ≤ 1000 ∧
  ∀ (t p : Addr) (H' : Hp), Same H H' → H' t = some (.tup [.int (num s.1 : Nat), .ref p]) → H' p = some (.tup ((s.2.map G.letter).map fun n : Nat => V.int (n : Int))) → Q (.ref t) H'
abbrev n_configuration_of : List Str := ["program", "situation"]
theorem sc_configuration_of : FnScope n_configuration_of ["program", "situation"] (defScope s_configuration_of) := ⟨rfl, rfl, rfl, by decide +kernel, rfl, by decide +kernel, by decide +kernel⟩
theorem ok_conf (T : Env K mg) (c_number_of : Cal P w K mg base 1 "number_of" sp_num []) (c_Coder : Mak P w K mg base 11 "Coder" (He.ga K "Coder") (sp_coder K) []) (c_Coder_pile : Met P w K mg base 3 (He.ga K "Coder") "pile" (sp_pile K) []) : Cal P w K mg base 13 "configuration_of" (sp_conf K) [] := by
  obtain ⟨fd, F⟩ := T.F_configuration_of
  refine cal_by F T.g_configuration_of (F.bindsN fun _ _ _ _ _ _ us hl => match us, hl with | [_, _], _ => rfl) sc_configuration_of (fun vs H Q E h => ?_) (fun cdv A outer s H vs Q E hr h => ?_)
  · obtain ⟨pg, v, s, G, rfl, _⟩ := h
    rfl
  obtain ⟨pg, v, ⟨g, fs⟩, G, rfl, hpg, ok, hv, so, h1000, k⟩ := h
  obtain ⟨sa, _, rfl, hsa, gv, _, rfl, hgv, fsv, _, rfl, hfs, rfl⟩ := hv
  obtain ⟨ga, rfl, hga⟩ := Rp.boolsT.mp hgv
  refine ⟨_, pss_one (ps_ret (pe_tup (pa_cons (pe_c c_number_of hr (by omega) rfl (pa_cons (pe_ix ix_tup (pv 1) pe_int (fun _ _ => rfl)) pa_nil)) (pa_cons (pe_mt c_Coder_pile hr (by omega) (pe_mk c_Coder hr (by omega) rfl (pa_cons (pv 0) pa_nil)) (pa_cons (pe_ix ix_tup (pv 1) pe_int (fun _ _ => rfl)) pa_nil)) pa_nil)))), ?_⟩
  refine ⟨_, rfl, sa, _, _, _, rfl, rfl, SqT.of hsa, rfl, ga, g, rfl, hga, ?_⟩
  refine ⟨_, rfl, fun x dx h1 h2 h3 => ⟨x, dx, pg, G, H, rfl, made h1 h2, h1, upd_same, hpg, ok, fun H1 s1 hc => ⟨rfl, ?_⟩⟩⟩
  obtain ⟨dx4, _, _, _, lr4, xs4, d1, _⟩ := id hc
  refine ⟨x, dx4, _, rfl, d1, rfl, _, rfl, sa, _, _, _, rfl, rfl, SqT.of (s1 _ _ hsa), rfl, x, fsv, fs, G, rfl, hc, Rp.at s1.tups _ _ hfs, fun f hf => (so.f f hf).lt, h1000, fun p H2 s2 hp => ⟨(by show 2 ≤ sizeLine; decide), fun t ht => ?_⟩⟩
  exact k t p _ ((s1.trans s2).new ht) upd_same (same_upd ht _ _ hp)
/-! ### the marks -/
def atL (G : Prog) (pl : Nat) (n : Nat) : Bool := match G.frames[n]? with
  | some f => isPass pl ((G.pts[f.1]?).bind (·.stm))
  | none => false
def sp_lat (K : PySem.W.Frag) : Sp := fun vs H Q _ => ∃ (pg : Addr) (pl : Nat) (G : Prog), vs = [.ref pg, .int pl] ∧ PgAt K H pg G ∧ G.Ok ∧ ∀ (r : Addr) (H' : Hp), Same H H' → H' r = some (.lst (((List.range G.frames.length).filter (atL G pl)).map fun n : Nat => V.int (n : Int))) → Q (.ref r) H'
abbrev n_letters_at : List Str := ["program", "place", "coder", "found", "letter", "point", "_"]
theorem sc_letters_at : FnScope n_letters_at ["program", "place"] (defScope s_letters_at) := ⟨rfl, rfl, rfl, by decide +kernel, rfl, by decide +kernel, by decide +kernel⟩
theorem ok_lat (T : Env K mg) (c_Coder : Mak P w K mg base 11 "Coder" (He.ga K "Coder") (sp_coder K) []) : Cal P w K mg base 13 "letters_at" (sp_lat K) [] := by
  obtain ⟨fd, F⟩ := T.F_letters_at
  refine cal_by F T.g_letters_at (F.bindsN fun _ _ _ _ _ _ us hl => match us, hl with | [_, _], _ => rfl) sc_letters_at (fun vs H Q E h => ?_) (fun cdv A outer s H vs Q E hr h => ?_)
  · obtain ⟨pg, pl, G, rfl, _⟩ := h
    rfl
  obtain ⟨pg, pl, G, rfl, hpg, ok, k⟩ := h
  refine ⟨_, pss_cons (ps_set (i := 2) sc_letters_at.nd rfl (Or.inl rfl) (pe_mk c_Coder hr (by omega) rfl (pa_cons (pv 0) pa_nil)))
      (pss_cons (ps_set (i := 3) sc_letters_at.nd rfl (Or.inl rfl) (pe_lst pa_nil))
      (pss_cons (ps_for PassesOwn.never rfl (pi_enum (by rfl) T.f_enumerate (pa_cons (pe_fld (pv 2) rfl) pa_nil)) (pg_tup (by rfl) (pgs_cons (pg_name (i := 4) sc_letters_at.nd rfl (Or.inl rfl)) (pgs_cons (pg_tup (by rfl) (pgs_cons (pg_name (i := 5) sc_letters_at.nd rfl (Or.inl rfl)) (pgs_cons (pg_name (i := 6) sc_letters_at.nd rfl (Or.inl rfl)) pgs_nil))) pgs_nil)))
        (pss_one (ps_if (pt_cmpR (op_eqD hr.units) (pe_fld (pe_ix ix_list (pe_fld (pe_fld (pe_fld (pv 2) rfl) rfl) rfl) (pv 5) (fun _ _ => rfl)) rfl) (pe_tup (pa_cons pe_str (pa_cons (pv 1) pa_nil))) (nomark _))
          (pss_one (ps_expr (pe_bm PySem.F.plainAttrs_list PySem.F.slot_list_append PySem.F.type_list_append mt_append (pv 3) (pa_cons (pv 4) pa_nil))))
          pss_nil)))
      (pss_one (ps_ret (pv 3))))), ?_⟩
  have F20 := ok.frs20
  refine ⟨_, rfl, fun x dx h1 h2 h3 => ⟨x, dx, pg, G, H, rfl, made h1 h2, h1, upd_same, hpg, ok, fun H1 s1 hc => ⟨rfl, ?_⟩⟩⟩
  refine ⟨Nat.zero_le _, fun fd hfd => ?_⟩
  have s2 := s1.new (o := .lst []) hfd
  have hc2 := hc.same (same_upd (o := .lst []) hfd)
  have hfd2 : (upd H1 fd (.lst [])) fd = some (.lst []) := upd_same
  have hfd0 := s1.free hfd
  have sB0 := same_upd (o := .lst []) hfd
  generalize upd H1 fd (.lst []) = H2 at *
  obtain ⟨dxc, pg', wk, lf, lr, fxs, c1, c2, c3, c4, c5, c6⟩ := id hc
  obtain ⟨dw, pg2, mp, w1, w2, dm, lp, le, as, m1, m2, m3, m4, m5⟩ := id c3
  have fxl : fxs.length = G.frames.length := by rw [c6.len, List.length_map]
  refine ⟨_, rfl, x, _, dxc, _, _, rfl, sB0 _ _ c1, T.c_Coder, T.n_Coder_frames, rfl, lr, _, rfl, SqL.of (sB0 _ _ c5), ?_⟩
  refine for_it (walk_enum (K := K) (a := lr) (xs := fxs)) (fun i σ H3 => ∃ (x4 x5 x6 : Option V), σ = [some (.ref pg), some (.int pl), some (.ref x), some (.ref fd), x4, x5, x6] ∧ Same H1 H3 ∧ H3 fd = some (.lst (((List.range i).filter (atL G pl)).map fun n : Nat => V.int (n : Int))))
    ⟨_, _, _, rfl, sB0, hfd2⟩ (fun i σ H3 _ ⟨_, _, _, _, z, _⟩ => SqL.of (z _ _ c5)) ?_ ?_
  · rintro i yv σ H3 _ hi ⟨x4, x5, x6, rfl, s3, hfd3⟩ ⟨U, _, v, rfl, hU, rfl, e1, e2⟩
    cases e1
    obtain ⟨d, hdi, rd⟩ := c6.getV e2
    rw [List.getElem?_map] at hdi
    obtain ⟨f, hf, rfl⟩ := Option.map_eq_some_iff.mp hdi
    obtain ⟨fa, _, rfl, hfa, _, _, rfl, rfl, lv, _, rfl, hlv, rfl⟩ := rd
    obtain ⟨p, hp, hlp⟩ := frames_ok (List.mem_of_getElem? hf)
    have po := ok.pt hp
    obtain ⟨y, hy, dy, sv, o1, hsv, _⟩ := m5 f.1 p hp
    rw [Nat.zero_add] at hy
    have su := same_upd (o := .tup [V.int (i : Nat), V.ref fa]) hU
    have s4 := s3.trans su
    have hU4 : (upd H3 U (.tup [V.int (i : Nat), V.ref fa])) U = some (.tup [V.int (i : Nat), V.ref fa]) := upd_same
    have hfd4 := su _ _ hfd3
    generalize upd H3 U (.tup [V.int (i : Nat), V.ref fa]) = H4 at *
    have hA : atL G pl i = isPass pl p.stm := by
      unfold atL
      rw [hf]
      show isPass pl ((G.pts[f.1]?).bind (·.stm)) = _
      rw [hp]
      rfl
    refine ⟨U, _, rfl, SqT.of hU4, rfl, _, _, rfl, _, _, rfl, fa, _, rfl, SqT.of (s4 _ _ hfa), rfl, _, _, rfl, _, _, rfl, rfl, rfl, ?_⟩
    refine ⟨_, rfl, x, _, dxc, _, _, rfl, s4 _ _ c1, T.c_Coder, T.n_Coder_walker, rfl, wk, _, dw, _, _, rfl, s4 _ _ w1, T.c_Walker, T.n_Walker_map, rfl, mp, _, dm, _, _, rfl, s4 _ _ m1, T.c_Points, T.n_Points_points, rfl, _, rfl, lp, _, f.1, _, rfl, rfl, SqL.of (s4 _ _ m2), atI_nat (by rw [List.getElem?_map, hy]; rfl), y.1, _, dy, _, _, rfl, s4 _ _ o1, T.c_Point, T.n_Point_statement, rfl, ?_⟩
    refine ⟨_, rfl, (by show 2 ≤ sizeLine; decide), fun q hq => ?_⟩
    have s5 := same_upd (o := .tup [V.str "pass", V.int pl]) hq
    have hfd5 := s5 _ _ hfd4
    have s15 := s4.trans s5
    have test : ∃ d e, Dp K (upd H4 q (.tup [V.str "pass", V.int pl])) sv d ∧ Dp K (upd H4 q (.tup [V.str "pass", V.int pl])) (.ref q) e ∧ SeqAt.shaped d = true ∧ SeqAt.shaped e = true ∧ PyData.eqv d e = isPass pl p.stm := by
      cases hs : p.stm with
      | none =>
        rw [hs] at hsv
        have e0 : sv = .non := hsv
        subst e0
        exact ⟨.none, .tuple [.str "pass", .int pl], .non, Rp.dp _ _ ⟨q, _, rfl, upd_same, .cons rfl (.one rfl)⟩, rfl, shaped_pass pl, rfl⟩
      | some st =>
        rw [hs] at hsv
        obtain ⟨sok, sdp, _⟩ := po.stm st hs
        exact ⟨_, .tuple [.str "pass", .int pl], Rp.dp _ _ (Rp.at s15.tups _ _ hsv), Rp.dp _ _ ⟨q, _, rfl, upd_same, .cons rfl (.one rfl)⟩, shaped_sm sok sdp, shaped_pass pl, eqv_pass st pl⟩
    obtain ⟨d, e, z1, z2, z3, z4, z5⟩ := test
    refine ⟨d, e, z1, z2, z3, z4, _, rfl, ?_⟩
    rw [z5, ← hA]
    have er : (List.range (i + 1)).filter (atL G pl) = (List.range i).filter (atL G pl) ++ (if atL G pl i = true then [i] else []) := by
      rw [List.range_succ, List.filter_append]
      congr 1
      simp only [List.filter_cons, List.filter_nil]
    have lf2 : ((List.range i).filter (atL G pl)).length ≤ i := by
      have := List.length_filter_le (atL G pl) (List.range i)
      rw [List.length_range] at this
      exact this
    refine ite2 (fun c => ?_) (fun c => ?_)
    · refine ⟨_, rfl, .inl ⟨rfl, _, SqL.of hfd5⟩, _, rfl, fd, _, _, rfl, rfl, hfd5, smallL (by rw [List.length_map]; omega), ?_⟩
      refine ⟨_, _, _, rfl, s15.mut hfd, ?_⟩
      rw [upd_same, er, if_pos c, List.map_append]
      rfl
    · refine ⟨_, _, _, rfl, s15, ?_⟩
      rw [er, if_neg c, List.append_nil]
      exact hfd5
  · rintro σ H3 ⟨x4, x5, x6, rfl, s3, hfd3⟩
    rw [fxl] at hfd3
    exact ⟨_, rfl, k fd H3 (s1.trans s3) hfd3⟩
/-- the steps that leave a marked letter -/
def Prog.marks (G : Prog) (pl : Nat) : List Nat := (List.range G.mach.length).filter fun i => match G.mach[i]? with
  | some st => atL G pl st.lt
  | none => false
def sp_marks (K : PySem.W.Frag) : Sp := fun vs H Q _ => ∃ (pg : Addr) (pl : Nat) (G : Prog), vs = [.ref pg, .int pl] ∧ PgAt K H pg G ∧ G.Ok ∧ ∀ (r : Addr) (H' : Hp), Same H H' → H' r = some (.tup ((G.marks pl).map fun n : Nat => V.int (n : Int))) → Q (.ref r) H'
theorem mem_ints (l : List Nat) (n : Nat) : inV (V.int (n : Int)) (l.map fun n : Nat => V.int (n : Int)) = decide (n ∈ l) := by
  induction l with
  | nil => rfl
  | cons a r ih =>
    unfold inV at ih ⊢
    rw [List.map_cons, List.any_cons, ih]
    show (((a : Int) == (n : Int)) || decide (n ∈ r)) = _
    by_cases c : n = a
    · subst c
      simp
    · have h1 : ((a : Int) == (n : Int)) = false := beq_eq_false_iff_ne.mpr fun z => c (by omega)
      rw [h1]
      simp [c]
abbrev n_place_marks : List Str := ["program", "place", "letters", "machine", "index", "step"]
theorem sc_place_marks : FnScope n_place_marks ["program", "place"] (defScope s_place_marks) := ⟨rfl, rfl, rfl, by decide +kernel, rfl, by decide +kernel, by decide +kernel⟩
theorem ok_marks (T : Env K mg) (c_letters_at : Cal P w K mg base 13 "letters_at" (sp_lat K) []) (c_machine_of : Cal P w K mg base 13 "machine_of" (sp_macho K) []) : Cal P w K mg base 14 "place_marks" (sp_marks K) [] := by
  obtain ⟨fd, F⟩ := T.F_place_marks
  refine cal_by F T.g_place_marks (F.bindsN fun _ _ _ _ _ _ us hl => match us, hl with | [_, _], _ => rfl) sc_place_marks (fun vs H Q E h => ?_) (fun cdv A outer s H vs Q E hr h => ?_)
  · obtain ⟨pg, pl, G, rfl, _⟩ := h
    rfl
  obtain ⟨pg, pl, G, rfl, hpg, ok, k⟩ := h
  refine ⟨_, pss_cons (ps_set (i := 2) sc_place_marks.nd rfl (Or.inr rfl) (pe_c c_letters_at hr (by omega) rfl (pa_cons (pv 0) (pa_cons (pv 1) pa_nil))))
      (pss_cons (ps_set (i := 3) sc_place_marks.nd rfl (Or.inl rfl) (pe_c c_machine_of hr (by omega) rfl (pa_cons (pv 0) pa_nil)))
      (pss_one (ps_ret (pe_callTy call_tuple_of (by rfl) T.f_tuple (by decide +kernel) (pa_cons (pe_lc (own := [("index", 4), ("step", 5)]) (g := gTup K 2 (gCons (gName 4) (gCons (gName 5) (gNil)))) (by rfl) sc_place_marks.nd (pi_enumT (by rfl) T.f_enumerate (pa_cons (pe_fld (pv 3) rfl) pa_nil)) (blkOk_by (own := [("index", 4), ("step", 5)]) (N := n_place_marks) (sc := defScope s_place_marks) (by decide +kernel)) (fun _ _ _ _ _ => (pg_tup (by rfl) (pgs_cons (pg_name (i := 4) sc_place_marks.nd rfl (Or.inl rfl)) (pgs_cons (pg_name (i := 5) sc_place_marks.nd rfl (Or.inl rfl)) pgs_nil)))) (fun _ _ _ _ _ => (pts_one (pt_cmpR (r := rIn K false) op_in_seq (pe_fldK (K := K) rfl (pv 5) rfl) (pv 2) (by rfl)))) (fun _ _ _ _ _ => (pv 4))) pa_nil))))), ?_⟩
  refine ⟨_, rfl, _, rfl, pg, pl, G, rfl, hpg, ok, fun lr H1 s1 hlr => ?_⟩
  refine ⟨_, rfl, pg, G, rfl, hpg.same s1, ok, fun mx H2 s2 hm => ?_⟩
  obtain ⟨dx, t, S, L, xs, m1, m2, m3⟩ := hm
  have hlr2 := s2 _ _ hlr
  refine ⟨_, rfl, mx, _, dx, _, _, rfl, m1, T.c_Machine, T.n_Machine_steps, rfl, t, xs, rfl, SqT.of m2, fun D hD => ?_⟩
  have xl := m3.1
  have x160 : xs.length ≤ 10000 := by
    rw [xl]
    unfold Prog.mach
    have hN4 : 2 ^ G.gc ≤ 4 := Nat.pow_le_pow_right (n := 2) (by decide) ok.gc
    have h1 := flat_len (fun l => (List.range (2 ^ G.gc)).flatMap fun s => G.steps1 l s) (2 ^ G.gc * 2) G.frames.length fun l => flat_len _ 2 _ fun s => steps1_len
    have : G.frames.length * (2 ^ G.gc * 2) ≤ 20 * 8 := Nat.mul_le_mul ok.frs20 (by omega)
    omega
  have mk1 : ∀ j st, G.mach[j]? = some st → ((List.range (j + 1)).filter fun i => match G.mach[i]? with
      | some st => atL G pl st.lt
      | none => false) = ((List.range j).filter fun i => match G.mach[i]? with
      | some st => atL G pl st.lt
      | none => false) ++ (if atL G pl st.lt = true then [j] else []) := fun j st e => by
    rw [List.range_succ, List.filter_append]
    congr 1
    simp only [List.filter_cons, List.filter_nil, e]
  refine lc_it (walk_enumT (K := K) (a := t) (xs := xs)) (fun j H3 => Same H2 H3 ∧ H3 D = some (.lst (((List.range j).filter fun i => match G.mach[i]? with
      | some st => atL G pl st.lt
      | none => false).map fun n : Nat => V.int (n : Int)))) ⟨same_upd hD, upd_same⟩ (fun j H3 _ z => SqT.of (z.1 _ _ m2)) ?_ ?_
  · rintro j y H3 _ hj ⟨sm3, hD3⟩ ⟨U, _, v, rfl, hU, rfl, e1, e2⟩
    cases e1
    obtain ⟨st, hst, o, dxo, la, rfl, ho, hla⟩ := m3.2 j v e2
    have su := same_upd (o := .tup [V.int (j : Nat), V.ref o]) hU
    have s4 := sm3.trans su
    have hU4 : (upd H3 U (.tup [V.int (j : Nat), V.ref o])) U = some (.tup [V.int (j : Nat), V.ref o]) := upd_same
    have hD4 := su _ _ hD3
    generalize upd H3 U (.tup [V.int (j : Nat), V.ref o]) = H4 at *
    refine ⟨U, _, rfl, SqT.of hU4, rfl, _, _, rfl, _, _, rfl, rfl, rfl, ?_⟩
    refine ⟨_, rfl, o, _, dxo, _, _, rfl, s4 _ _ ho, T.c_Step, T.n_Step_letter, rfl, _, rfl, lr, _, rfl, .inl (SqL.of (s4 _ _ hlr2)), rfl, by simp [flatV], ?_⟩
    refine ⟨_, rfl, ?_⟩
    have sok := mach_ok ok st (List.mem_of_getElem? hst)
    have ein : inV (V.int (st.lt : Nat)) (((List.range G.frames.length).filter (atL G pl)).map fun n : Nat => V.int (n : Int)) = atL G pl st.lt := by
      rw [mem_ints]
      by_cases c : atL G pl st.lt = true
      · rw [c]
        exact decide_eq_true (List.mem_filter.mpr ⟨List.mem_range.mpr sok.l, c⟩)
      · rw [Bool.eq_false_iff.mpr c]
        exact decide_eq_false fun z => c (List.mem_filter.mp z).2
    have fl : ((List.range j).filter fun i => match G.mach[i]? with
      | some st => atL G pl st.lt
      | none => false).length ≤ j := by
      have := List.length_filter_le (fun i => match G.mach[i]? with
      | some st => atL G pl st.lt
      | none => false) (List.range j)
      rw [List.length_range] at this
      exact this
    show if inV (V.int (st.lt : Nat)) (((List.range G.frames.length).filter (atL G pl)).map fun n : Nat => V.int (n : Int)) = true then _ else _
    rw [ein]
    refine ite2 (fun c => ?_) (fun c => ?_)
    · refine ⟨_, rfl, _, hD4, smallL (by rw [List.length_map]; omega), s4.mut hD, ?_⟩
      rw [upd_same, mk1 j st hst, if_pos c, List.map_append]
      rfl
    · refine ⟨s4, ?_⟩
      rw [mk1 j st hst, if_neg c, List.append_nil]
      exact hD4
  · rintro H3 ⟨sm3, hD3⟩
    refine ⟨D, _, rfl, .inl ⟨SqL.of hD3, fun p hp => k p _ (((s1.trans s2).trans sm3).new hp) ?_⟩⟩
    rw [upd_same, xl]
    rfl
end
end Pr
/-! Pushdown runs, heads, rings: plain Lean, no program in sight. -/
namespace Pd
section
variable {S A : Type} (δ : S → A → S → List A → Prop) (μ : A → Bool)

/-- a run, with whether a marked letter was on top ahead of some step -/
inductive Run : S × List A → Bool → S × List A → Prop
  | refl (c : S × List A) : Run c false c
  | head {s : S} {a : A} {w : List A} {g : S} {l : List A} {f : Bool} {c : S × List A} : δ s a g l → Run (g, l ++ w) f c → Run (s, a :: w) (μ a || f) c
/-- a letter is taken off -/
inductive Pop : S → A → S → Bool → Prop
  | p0 {s : S} {a : A} {g : S} : δ s a g [] → Pop s a g (μ a)
  | p1 {s : S} {a : A} {g : S} {b : A} {r : S} {f : Bool} : δ s a g [b] → Pop g b r f → Pop s a r (μ a || f)
  | p2 {s : S} {a : A} {g : S} {b c : A} {r t : S} {f h : Bool} : δ s a g [b, c] → Pop g b r f → Pop r c t h → Pop s a t (μ a || f || h)
/-- moves of heads -/
inductive Mv : S × A → Bool → S × A → Prop
  | m1 {s : S} {a : A} {g : S} {b : A} {l : List A} : δ s a g (b :: l) → Mv (s, a) (μ a) (g, b)
  | m2 {s : S} {a : A} {g : S} {b c : A} {r : S} {f : Bool} : δ s a g [b, c] → Pop δ μ g b r f → Mv (s, a) (μ a || f) (r, c)
inductive HR : S × A → Bool → S × A → Prop
  | refl (h : S × A) : HR h false h
  | tail {h g k : S × A} {f m : Bool} : HR h f g → Mv δ μ g m k → HR h (f || m) k
variable {δ μ}

theorem Run.trans {c d e : S × List A} {f g : Bool} (a : Run δ μ c f d) (b : Run δ μ d g e) : Run δ μ c (f || g) e := by
  induction a with
  | refl c => simpa using b
  | head h _ ih =>
    have := Run.head h (ih b)
    rwa [← Bool.or_assoc] at this
theorem HR.trans {h k l : S × A} {f g : Bool} (a : HR δ μ h f k) (b : HR δ μ k g l) : HR δ μ h (f || g) l := by
  induction b with
  | refl => simpa using a
  | tail _ m ih =>
    have := HR.tail ih m
    rwa [Bool.or_assoc] at this
theorem HR.one {h k : S × A} {m : Bool} (x : Mv δ μ h m k) : HR δ μ h m k := by simpa using HR.tail (HR.refl h) x

/-! ### a ring of configurations gives a ring of heads -/
/-- what a run from a head alone has reached -/
def Lv (δ : S → A → S → List A → Prop) (μ : A → Bool) (h : S × A) : S → List A → Bool → Prop
  | _, [], _ => True
  | s, b :: rest, F => HR δ μ h F (s, b) ∧ ∀ r f, Pop δ μ s b r f → Lv δ μ h r rest (F || f)
theorem Lv.step {h : S × A} (two : ∀ s a g l, δ s a g l → l.length ≤ 2) {s : S} {b : A} {rest : List A} {F : Bool} {g : S} {l : List A} (x : Lv δ μ h s (b :: rest) F) (d : δ s b g l) :
    Lv δ μ h g (l ++ rest) (F || μ b) := by
  obtain ⟨hr, hp⟩ := x
  match l, two s b g l d with
  | [], _ => exact hp g _ (.p0 d)
  | [b1], _ =>
    refine ⟨.tail hr (.m1 d), fun r f p => ?_⟩
    have := hp r _ (.p1 d p)
    rwa [← Bool.or_assoc] at this
  | [b1, c1], _ =>
    refine ⟨.tail hr (.m1 d), fun r f p => ⟨?_, fun t e q => ?_⟩⟩
    · have := HR.tail hr (.m2 d p)
      rwa [← Bool.or_assoc] at this
    · have := hp t _ (.p2 d p q)
      simpa [Bool.or_assoc] using this
  | _ :: _ :: _ :: _, z => simp at z
theorem Lv.run {h : S × A} (two : ∀ s a g l, δ s a g l → l.length ≤ 2) {c d : S × List A} {f : Bool} (r : Run δ μ c f d) : ∀ F, Lv δ μ h c.1 c.2 F → Lv δ μ h d.1 d.2 (F || f) := by
  induction r with
  | refl c => intro F x; simpa using x
  | head e _ ih =>
    intro F x
    have := ih _ (Lv.step two x e)
    rwa [Bool.or_assoc] at this
theorem Lv.start (h : S × A) : Lv δ μ h h.1 [h.2] false := ⟨.refl h, fun _ _ _ => trivial⟩

/-- a run whose piles have at least k letters -/
inductive RunA (δ : S → A → S → List A → Prop) (μ : A → Bool) (k : Nat) : S × List A → Bool → S × List A → Prop
  | refl (c : S × List A) : k ≤ c.2.length → RunA δ μ k c false c
  | head {s : S} {a : A} {w : List A} {g : S} {l : List A} {f : Bool} {c : S × List A} : k ≤ (a :: w).length → δ s a g l → RunA δ μ k (g, l ++ w) f c → RunA δ μ k (s, a :: w) (μ a || f) c
theorem RunA.mono {j k : Nat} (h : j ≤ k) {c d : S × List A} {f : Bool} (r : RunA δ μ k c f d) : RunA δ μ j c f d := by
  induction r with
  | refl c z => exact .refl c (Nat.le_trans h z)
  | head z e _ ih => exact .head (Nat.le_trans h z) e ih
theorem RunA.trans {k : Nat} {c d e : S × List A} {f g : Bool} (a : RunA δ μ k c f d) (b : RunA δ μ k d g e) : RunA δ μ k c (f || g) e := by
  induction a with
  | refl c => simpa using b
  | head z h _ ih =>
    have := RunA.head z h (ih b)
    rwa [← Bool.or_assoc] at this
theorem RunA.run {k : Nat} {c d : S × List A} {f : Bool} (r : RunA δ μ k c f d) : Run δ μ c f d := by
  induction r with
  | refl c => exact .refl c
  | head _ e _ ih => exact .head e ih
theorem low_point {c d : S × List A} {f : Bool} (r : Run δ μ c f d) : ∃ m f1 f2, RunA δ μ m.2.length c f1 m ∧ RunA δ μ m.2.length m f2 d ∧ f = (f1 || f2) := by
  induction r with
  | refl c => exact ⟨c, false, false, .refl c (Nat.le_refl _), .refl c (Nat.le_refl _), rfl⟩
  | @head s a w g l f c e _ ih =>
    obtain ⟨m, f1, f2, r1, r2, rfl⟩ := ih
    by_cases z : m.2.length ≤ (a :: w).length
    · exact ⟨m, _, f2, .head z e r1, r2, (Bool.or_assoc ..).symm⟩
    · have z' : (a :: w).length ≤ m.2.length := Nat.le_of_not_le z
      exact ⟨(s, a :: w), false, _, .refl _ (Nat.le_refl _), .head (Nat.le_refl _) e ((r1.mono z').trans (r2.mono z')), by simp⟩
/-- what lies below is not looked at -/
theorem RunA.strip {w : List A} {c d : S × List A} {f : Bool} (r : RunA δ μ (w.length + 1) c f d) : ∀ u, c.2 = u ++ w → ∃ v, d.2 = v ++ w ∧ Run δ μ (c.1, u) f (d.1, v) := by
  induction r with
  | refl c => exact fun u e => ⟨u, e, .refl _⟩
  | @head s a w' g l f c z e r ih =>
    intro u hu
    have hu : a :: w' = u ++ w := hu
    cases u with
    | nil =>
      rw [hu] at z
      simp at z
      omega
    | cons x u =>
      rw [List.cons_append] at hu
      injection hu with h1 h2
      subst h1 h2
      obtain ⟨v, e1, r1⟩ := ih (l ++ u) (by simp)
      exact ⟨v, e1, .head e r1⟩
theorem Run.true_ne {c d : S × List A} {f : Bool} (r : Run δ μ c f d) (h : f = true) : c.2 ≠ [] := by
  cases r with
  | refl => cases h
  | head => simp
theorem HR.marked {h k : S × A} {f : Bool} (r : HR δ μ h f k) : f = true → ∃ x y f1 f2, HR δ μ h f1 x ∧ Mv δ μ x true y ∧ HR δ μ y f2 k := by
  induction r with
  | refl => intro z; cases z
  | @tail g k f m r x ih =>
    intro z
    by_cases hm : m = true
    · subst hm
      exact ⟨g, k, f, false, r, x, .refl _⟩
    · have hf : f = true := by simpa [hm] using z
      obtain ⟨x1, y1, f1, f2, a, b, c⟩ := ih hf
      exact ⟨x1, y1, f1, _, a, b, .tail c x⟩
theorem ring_of_cycle (two : ∀ s a g l, δ s a g l → l.length ≤ 2) {q0 : S} {a0 : A} {c : S × List A} {f : Bool} (r0 : Run δ μ (q0, [a0]) f c) (r1 : Run δ μ c true c) :
    ∃ x y f1 f2, HR δ μ (q0, a0) f1 x ∧ Mv δ μ x true y ∧ HR δ μ y f2 x := by
  obtain ⟨m, f1, f2, ra, rb, e⟩ := low_point r1
  have rc := rb.trans ra
  have ec : (f2 || f1) = true := by rw [Bool.or_comm]; exact e.symm
  rw [ec] at rc
  have reach := r0.trans ra.run
  obtain ⟨q, pile⟩ := m
  have ne := rc.run.true_ne rfl
  cases pile with
  | nil => exact absurd rfl ne
  | cons a w =>
    obtain ⟨v, e1, r2⟩ := RunA.strip (w := w) (rc.mono (by simp)) [a] rfl
    have ev : v = [a] := by
      have : ([a] : List A) ++ w = v ++ w := e1
      exact (List.append_cancel_right this).symm
    subst ev
    have loop : HR δ μ (q, a) true (q, a) := (Lv.run two r2 false (Lv.start (q, a))).1
    have up := (Lv.run two reach false (Lv.start (q0, a0))).1
    obtain ⟨x, y, g1, g2, h1, h2, h3⟩ := loop.marked rfl
    exact ⟨x, y, _, _, up.trans h1, h2, h3.trans h1⟩

/-! ### a ring of heads gives a ring of configurations, where few configurations are reached -/
theorem Pop.run {s : S} {a : A} {r : S} {f : Bool} (p : Pop δ μ s a r f) : ∀ w, Run δ μ (s, a :: w) f (r, w) := by
  induction p with
  | p0 d =>
    intro w
    have := Run.head (μ := μ) (w := w) d (.refl _)
    simpa using this
  | p1 d _ ih => exact fun w => Run.head (w := w) d (ih w)
  | p2 d _ _ ih1 ih2 =>
    intro w
    have := Run.head (w := w) d ((ih1 _).trans (ih2 w))
    rwa [← Bool.or_assoc] at this
theorem Mv.run (two : ∀ s a g l, δ s a g l → l.length ≤ 2) {h k : S × A} {m : Bool} (x : Mv δ μ h m k) : ∃ v, ∀ w, Run δ μ (h.1, h.2 :: w) m (k.1, k.2 :: (v ++ w)) := by
  cases x with
  | @m1 s a g b l d =>
    refine ⟨l, fun w => ?_⟩
    have := Run.head (μ := μ) (w := w) d (.refl _)
    simpa using this
  | m2 d p => exact ⟨[], fun w => Run.head (w := w) d (p.run _)⟩
theorem HR.run (two : ∀ s a g l, δ s a g l → l.length ≤ 2) {h k : S × A} {f : Bool} (r : HR δ μ h f k) : ∃ v, ∀ w, Run δ μ (h.1, h.2 :: w) f (k.1, k.2 :: (v ++ w)) := by
  induction r with
  | refl => exact ⟨[], fun w => .refl _⟩
  | tail _ x ih =>
    obtain ⟨v, hv⟩ := ih
    obtain ⟨u, hu⟩ := x.run two
    refine ⟨u ++ v, fun w => ?_⟩
    have := (hv w).trans (hu (v ++ w))
    simpa using this
theorem Run.marked {c d : S × List A} {f : Bool} (r : Run δ μ c f d) : f = true → ∃ s a w g l f1 f2, Run δ μ c f1 (s, a :: w) ∧ μ a = true ∧ δ s a g l ∧ Run δ μ (g, l ++ w) f2 d := by
  induction r with
  | refl => intro z; cases z
  | @head s a w g l f c e r ih =>
    intro z
    by_cases hm : μ a = true
    · exact ⟨s, a, w, g, l, false, f, .refl _, hm, e, r⟩
    · have hf : f = true := by simpa [hm] using z
      obtain ⟨s1, a1, w1, g1, l1, f1, f2, x1, x2, x3, x4⟩ := ih hf
      exact ⟨s1, a1, w1, g1, l1, _, f2, .head e x1, x2, x3, x4⟩
def rep (v : List A) : Nat → List A → List A
  | 0, w => w
  | n + 1, w => v ++ rep v n w
theorem rep_len (v w : List A) : ∀ n, (rep v n w).length = n * v.length + w.length
  | 0 => by simp [rep]
  | n + 1 => by simp only [rep, List.length_append, rep_len v w n, Nat.succ_mul]; omega
theorem cycle_of_ring (two : ∀ s a g l, δ s a g l → l.length ≤ 2) {q0 : S} {a0 : A} {x y : S × A} {f1 f2 : Bool} (L : List (S × List A)) (fin : ∀ c f, Run δ μ (q0, [a0]) f c → c ∈ L)
    (h1 : HR δ μ (q0, a0) f1 x) (h2 : Mv δ μ x true y) (h3 : HR δ μ y f2 x) :
    ∃ s a w g l f f', Run δ μ (q0, [a0]) f (s, a :: w) ∧ μ a = true ∧ δ s a g l ∧ Run δ μ (g, l ++ w) f' (s, a :: w) := by
  obtain ⟨w0, hw0⟩ := h1.run two
  have r0 := hw0 []
  obtain ⟨v, hv⟩ := ((HR.one h2).trans h3).run two
  rw [Bool.true_or] at hv
  have all : ∀ n, ∃ f, Run δ μ (q0, [a0]) f (x.1, x.2 :: rep v n (w0 ++ [])) := by
    intro n
    induction n with
    | zero => exact ⟨_, r0⟩
    | succ n ih =>
      obtain ⟨f, r⟩ := ih
      exact ⟨_, r.trans (hv _)⟩
  have v0 : v = [] := by
    cases v with
    | nil => rfl
    | cons b v =>
      exfalso
      have len : ∀ n, (rep (b :: v) n (w0 ++ [])).length = n * (v.length + 1) + (w0 ++ []).length := fun n => rep_len (b :: v) (w0 ++ []) n
      have inj : ∀ i j, rep (b :: v) i (w0 ++ []) = rep (b :: v) j (w0 ++ []) → i = j := by
        intro i j e
        have e2 := congrArg List.length e
        rw [len, len] at e2
        have e3 : i * (v.length + 1) = j * (v.length + 1) := by omega
        exact Nat.eq_of_mul_eq_mul_right (Nat.succ_pos _) e3
      have nd : ((List.range (L.length + 1)).map fun n => (x.1, x.2 :: rep (b :: v) n (w0 ++ []))).Nodup := by
        refine List.Pairwise.map _ ?_ List.nodup_range
        intro i j hij e
        injection e with _ e
        injection e with _ e
        exact hij (inj i j e)
      have sub := List.Nodup.length_le_of_subset nd (l₂ := L) (by
        intro c hc
        obtain ⟨n, _, rfl⟩ := List.mem_map.mp hc
        obtain ⟨f, r⟩ := all n
        exact fin _ _ r)
      simp at sub
      omega
  subst v0
  have loop := hv (w0 ++ [])
  rw [List.nil_append] at loop
  obtain ⟨s, a, w, g, l, g1, g2, e1, e2, e3, e4⟩ := loop.marked rfl
  exact ⟨s, a, w, g, l, _, _, r0.trans e1, e2, e3, e4.trans e1⟩
end
end Pd
/-! The table of what is taken off: plain Lean. -/
namespace Pr
abbrev En := Nat × Nat × Nat × Bool
abbrev Fd := En × Nat × List En
abbrev Way := Nat × Bool × List En
def keys (F : List Fd) : List En := F.map (·.1)
def leav (F : List Fd) (s a : Nat) : List En := (keys F).filter fun e => e.1 == s && e.2.1 == a
def ext1 (F : List Fd) (c : Nat) (w : Way) : List Way := (leav F w.1 c).map fun e => (e.2.2.1, w.2.1 || e.2.2.2, w.2.2 ++ [e])
def extW (F : List Fd) (ws : List Way) (c : Nat) : List Way := ws.flatMap (ext1 F c)
def ways (F : List Fd) (go : Nat) (mk : Bool) (la : List Nat) : List Way := la.foldl (extW F) [(go, mk, [])]
def add1 (F : List Fd) (i s a : Nat) (w : Way) : List Fd := if (s, a, w.1, w.2.1) ∈ keys F then F else F ++ [((s, a, w.1, w.2.1), i, w.2.2)]
def addW (i s a : Nat) (ws : List Way) (F : List Fd) : List Fd := ws.foldl (fun F w => add1 F i s a w) F
def useT (M : List Stp) (mk : Nat → Bool) (F : List Fd) (i : Nat) : List Fd := match M[i]? with
  | some st => addW i st.st st.lt (ways F st.go (mk i) st.la) F
  | none => F
def passT (M : List Stp) (mk : Nat → Bool) (F : List Fd) (n : Nat) : List Fd := (List.range n).foldl (useT M mk) F
theorem passT_succ (M : List Stp) (mk : Nat → Bool) (F : List Fd) (n : Nat) : passT M mk F (n + 1) = useT M mk (passT M mk F n) n := by
  unfold passT
  rw [List.range_succ, List.foldl_append]
  rfl
theorem mem_leav {F : List Fd} {s a : Nat} {e : En} : e ∈ leav F s a ↔ e ∈ keys F ∧ e.1 = s ∧ e.2.1 = a := by
  unfold leav
  rw [List.mem_filter]
  simp
theorem add1_pre (F : List Fd) (i s a : Nat) (w : Way) : ∃ X, add1 F i s a w = F ++ X := by
  unfold add1
  split
  · exact ⟨[], (List.append_nil F).symm⟩
  · exact ⟨_, rfl⟩
theorem addW_pre (i s a : Nat) : ∀ (ws : List Way) (F : List Fd), ∃ X, addW i s a ws F = F ++ X
  | [], F => ⟨[], (List.append_nil F).symm⟩
  | w :: ws, F => by
    obtain ⟨X, h⟩ := add1_pre F i s a w
    obtain ⟨Y, h2⟩ := addW_pre i s a ws (F ++ X)
    refine ⟨X ++ Y, ?_⟩
    show addW i s a ws (add1 F i s a w) = _
    rw [h, h2, List.append_assoc]
theorem useT_pre (M : List Stp) (mk : Nat → Bool) (F : List Fd) (i : Nat) : ∃ X, useT M mk F i = F ++ X := by
  unfold useT
  split
  · exact addW_pre ..
  · exact ⟨[], (List.append_nil F).symm⟩
theorem passT_pre (M : List Stp) (mk : Nat → Bool) (F : List Fd) : ∀ n, ∃ X, passT M mk F n = F ++ X
  | 0 => ⟨[], (List.append_nil F).symm⟩
  | n + 1 => by
    obtain ⟨X, h⟩ := passT_pre M mk F n
    obtain ⟨Y, h2⟩ := useT_pre M mk (passT M mk F n) n
    exact ⟨X ++ Y, by rw [passT_succ, h2, h, List.append_assoc]⟩
theorem keys_app (F X : List Fd) : keys (F ++ X) = keys F ++ keys X := List.map_append ..
/-- what is found from the first rows on -/
structure WayOk (F : List Fd) (go : Nat) (mk : Bool) (la : List Nat) (w : Way) : Prop where
  len : w.2.2.length = la.length
  mem : ∀ e ∈ w.2.2, e ∈ keys F
  is : (la = [] ∧ w.1 = go ∧ w.2.1 = mk) ∨ (∃ b e, la = [b] ∧ e ∈ keys F ∧ e.1 = go ∧ e.2.1 = b ∧ w.1 = e.2.2.1 ∧ w.2.1 = (mk || e.2.2.2)) ∨
    ∃ b c e e', la = [b, c] ∧ e ∈ keys F ∧ e' ∈ keys F ∧ e.1 = go ∧ e.2.1 = b ∧ e'.1 = e.2.2.1 ∧ e'.2.1 = c ∧ w.1 = e'.2.2.1 ∧ w.2.1 = (mk || e.2.2.2 || e'.2.2.2)
theorem WayOk.mono {F F' : List Fd} {go : Nat} {mk : Bool} {la : List Nat} {w : Way} (h : WayOk F go mk la w) (s : ∀ e ∈ keys F, e ∈ keys F') : WayOk F' go mk la w := by
  refine ⟨h.len, fun e m => s e (h.mem e m), ?_⟩
  rcases h.is with x | ⟨b, e, h1, h2, h3⟩ | ⟨b, c, e, e', h1, h2, h3, h4⟩
  · exact .inl x
  · exact .inr (.inl ⟨b, e, h1, s e h2, h3⟩)
  · exact .inr (.inr ⟨b, c, e, e', h1, s e h2, s e' h3, h4⟩)
theorem ways_ok {F : List Fd} {go : Nat} {mk : Bool} {la : List Nat} (h2 : la.length ≤ 2) : ∀ w ∈ ways F go mk la, WayOk F go mk la w := by
  intro w hw
  match la, h2 with
  | [], _ =>
    have e : w = (go, mk, []) := by simpa [ways] using hw
    subst e
    exact ⟨rfl, fun e m => by simp at m, .inl ⟨rfl, rfl, rfl⟩⟩
  | [b], _ =>
    simp only [ways, List.foldl_cons, List.foldl_nil, extW, List.flatMap_cons, List.flatMap_nil, List.append_nil, ext1, List.mem_map] at hw
    obtain ⟨e, he, rfl⟩ := hw
    obtain ⟨k1, k2, k3⟩ := mem_leav.mp he
    refine ⟨rfl, fun e' m => ?_, .inr (.inl ⟨b, e, rfl, k1, k2, k3, rfl, rfl⟩)⟩
    have : e' = e := by simpa using m
    rw [this]
    exact k1
  | [b, c], _ =>
    simp only [ways, List.foldl_cons, List.foldl_nil, extW, List.flatMap_cons, List.flatMap_nil, List.append_nil, List.mem_flatMap] at hw
    obtain ⟨v, hv, hw⟩ := hw
    simp only [ext1, List.mem_map] at hv hw
    obtain ⟨e, he, rfl⟩ := hv
    obtain ⟨e', he', rfl⟩ := hw
    obtain ⟨k1, k2, k3⟩ := mem_leav.mp he
    obtain ⟨j1, j2, j3⟩ := mem_leav.mp he'
    refine ⟨rfl, fun x m => ?_, .inr (.inr ⟨b, c, e, e', rfl, k1, j1, k2, k3, j2, j3, rfl, rfl⟩)⟩
    have : x = e ∨ x = e' := by simpa using m
    rcases this with rfl | rfl
    · exact k1
    · exact j1
  | _ :: _ :: _ :: _, z => simp at z
theorem ways0 {F : List Fd} {go : Nat} {mk : Bool} : (go, mk, []) ∈ ways F go mk [] := by simp [ways]
theorem ways1 {F : List Fd} {go b : Nat} {mk : Bool} {e : En} (k : e ∈ keys F) (h1 : e.1 = go) (h2 : e.2.1 = b) : (e.2.2.1, mk || e.2.2.2, [e]) ∈ ways F go mk [b] := by
  simp only [ways, List.foldl_cons, List.foldl_nil, extW, List.flatMap_cons, List.flatMap_nil, List.append_nil, ext1, List.mem_map]
  exact ⟨e, mem_leav.mpr ⟨k, h1, h2⟩, rfl⟩
theorem ways2 {F : List Fd} {go b c : Nat} {mk : Bool} {e e' : En} (k : e ∈ keys F) (h1 : e.1 = go) (h2 : e.2.1 = b) (k' : e' ∈ keys F) (h3 : e'.1 = e.2.2.1) (h4 : e'.2.1 = c) : (e'.2.2.1, mk || e.2.2.2 || e'.2.2.2, [e, e']) ∈ ways F go mk [b, c] := by
  simp only [ways, List.foldl_cons, List.foldl_nil, extW, List.flatMap_cons, List.flatMap_nil, List.append_nil, List.mem_flatMap]
  refine ⟨(e.2.2.1, mk || e.2.2.2, [e]), ?_, ?_⟩
  · simp only [ext1, List.mem_map]
    exact ⟨e, mem_leav.mpr ⟨k, h1, h2⟩, rfl⟩
  · simp only [ext1, List.mem_map]
    exact ⟨e', mem_leav.mpr ⟨k', h3, h4⟩, rfl⟩
section
variable {M : List Stp} {mk : Nat → Bool} {μ : Nat → Bool} {S L : Nat}
def dl (M : List Stp) (s a g : Nat) (l : List Nat) : Prop := (⟨s, a, g, l⟩ : Stp) ∈ M
/-- the machine's parts are in range, the marks go by letters -/
structure Mch (M : List Stp) (mk : Nat → Bool) (μ : Nat → Bool) (S L : Nat) : Prop where
  st : ∀ st ∈ M, st.st < S ∧ st.go < S ∧ st.lt < L ∧ st.la.length ≤ 2 ∧ ∀ n ∈ st.la, n < L
  mks : ∀ (i : Nat) (st : Stp), M[i]? = some st → mk i = μ st.lt
/-- one row of the table is right -/
structure RowOk (M : List Stp) (μ : Nat → Bool) (F : List Fd) (x : Fd) : Prop where
  st : ∃ st, M[x.2.1]? = some st ∧ st.st = x.1.1 ∧ st.lt = x.1.2.1
  pop : Pd.Pop (dl M) μ x.1.1 x.1.2.1 x.1.2.2.1 x.1.2.2.2
  two : x.2.2.length ≤ 2
  mem : ∀ p ∈ x.2.2, p ∈ keys F
/-- the table: each row is right by the rows ahead of it -/
structure Tab (M : List Stp) (μ : Nat → Bool) (F : List Fd) : Prop where
  nd : (keys F).Nodup
  ok : ∀ (k : Nat) (x : Fd), F[k]? = some x → RowOk M μ (F.take k) x
theorem Tab.nil : Tab M μ [] := ⟨List.nodup_nil, fun k x e => by simp at e⟩
theorem take_keys {F : List Fd} {k : Nat} {e : En} (h : e ∈ keys (F.take k)) : e ∈ keys F := by
  unfold keys at h ⊢
  obtain ⟨x, hx, rfl⟩ := List.mem_map.mp h
  exact List.mem_map.mpr ⟨x, List.mem_of_mem_take hx, rfl⟩
theorem Tab.pop {F : List Fd} (t : Tab M μ F) {e : En} (h : e ∈ keys F) : Pd.Pop (dl M) μ e.1 e.2.1 e.2.2.1 e.2.2.2 := by
  obtain ⟨x, hx, rfl⟩ := List.mem_map.mp h
  obtain ⟨k, hk⟩ := List.mem_iff_getElem?.mp hx
  exact (t.ok k x hk).pop
theorem Tab.snoc {F : List Fd} {x : Fd} (t : Tab M μ F) (n : x.1 ∉ keys F) (h : RowOk M μ F x) : Tab M μ (F ++ [x]) := by
  refine ⟨?_, fun k y e => ?_⟩
  · rw [keys_app]
    refine List.nodup_append.mpr ⟨t.nd, by simp [keys], fun a ha b hb z => ?_⟩
    have : b = x.1 := by simpa [keys] using hb
    rw [z, this] at ha
    exact n ha
  · by_cases c : k < F.length
    · rw [List.getElem?_append_left c] at e
      have := t.ok k y e
      rw [List.take_append_of_le_length (by omega)]
      exact this
    · have hk : k = F.length := by
        have := (List.getElem?_eq_some_iff.mp e).1
        rw [List.length_append, List.length_singleton] at this
        omega
      subst hk
      rw [List.getElem?_append_right (Nat.le_refl _), Nat.sub_self] at e
      cases (show some x = some y from e)
      rw [List.take_append_of_le_length (Nat.le_refl _), List.take_length]
      exact h
theorem way_pop {F : List Fd} (t : Tab M μ F) {st : Stp} (hm : st ∈ M) {b : Bool} (hb : b = μ st.lt) {w : Way} (h : WayOk F st.go b st.la w) : Pd.Pop (dl M) μ st.st st.lt w.1 w.2.1 := by
  subst hb
  have d : dl M st.st st.lt st.go st.la := hm
  rcases h.is with ⟨h1, h2, h3⟩ | ⟨b, e, h1, h2, h3, h4, h5, h6⟩ | ⟨b, c, e, e', h1, h2, h3, h4, h5, h6, h7, h8, h9⟩
  · rw [h1] at d
    rw [h2, h3]
    exact .p0 d
  · rw [h1] at d
    rw [h5, h6]
    have p := t.pop h2
    rw [h3, h4] at p
    exact .p1 d p
  · rw [h1] at d
    rw [h8, h9]
    have p := t.pop h2
    rw [h4, h5] at p
    have p' := t.pop h3
    rw [h6, h7] at p'
    exact .p2 d p p'
theorem Tab.add1 {F : List Fd} (t : Tab M μ F) {i : Nat} {st : Stp} (hi : M[i]? = some st) (h2 : st.la.length ≤ 2) {b : Bool} (hb : b = μ st.lt) {w : Way} (h : WayOk F st.go b st.la w) : Tab M μ (add1 F i st.st st.lt w) := by
  unfold Pr.add1
  split
  · exact t
  · rename_i n
    exact t.snoc n ⟨⟨st, hi, rfl, rfl⟩, way_pop t (List.mem_of_getElem? hi) hb h, by rw [h.len]; exact h2, h.mem⟩
theorem Tab.addW {i : Nat} {st : Stp} (hi : M[i]? = some st) (h2 : st.la.length ≤ 2) {b : Bool} (hb : b = μ st.lt) : ∀ (ws : List Way) (F : List Fd), Tab M μ F → (∀ w ∈ ws, WayOk F st.go b st.la w) → Tab M μ (addW i st.st st.lt ws F)
  | [], _, t, _ => t
  | w :: ws, F, t, h => by
    have t1 := t.add1 hi h2 hb (h w (List.mem_cons_self ..))
    obtain ⟨X, e⟩ := add1_pre F i st.st st.lt w
    refine Tab.addW hi h2 hb ws _ t1 fun v hv => (h v (List.mem_cons_of_mem _ hv)).mono fun e' m => ?_
    show e' ∈ keys (Pr.add1 F i st.st st.lt w)
    rw [e, keys_app]
    exact List.mem_append_left _ m
theorem Tab.use {F : List Fd} (c : Mch M mk μ S L) (t : Tab M μ F) (i : Nat) : Tab M μ (useT M mk F i) := by
  unfold useT
  split
  · rename_i st hi
    have h2 := (c.st st (List.mem_of_getElem? hi)).2.2.2.1
    exact Tab.addW hi h2 (c.mks i st hi) _ F t (ways_ok h2)
  · exact t
theorem Tab.pass {F : List Fd} (c : Mch M mk μ S L) (t : Tab M μ F) : ∀ n, Tab M μ (passT M mk F n)
  | 0 => t
  | n + 1 => by rw [passT_succ]; exact (Tab.pass c t n).use c n
/-- nothing new -/
theorem add1_same {F : List Fd} {i s a : Nat} {w : Way} (h : (add1 F i s a w).length = F.length) : (s, a, w.1, w.2.1) ∈ keys F := by
  unfold Pr.add1 at h
  split at h
  · assumption
  · simp at h
theorem addW_same (i s a : Nat) : ∀ (ws : List Way) (F : List Fd), (addW i s a ws F).length = F.length → ∀ w ∈ ws, (s, a, w.1, w.2.1) ∈ keys F
  | [], _, _, w, hw => by simp at hw
  | v :: ws, F, h, w, hw => by
    have h : (addW i s a ws (add1 F i s a v)).length = F.length := h
    obtain ⟨X, e⟩ := add1_pre F i s a v
    obtain ⟨Y, e2⟩ := addW_pre i s a ws (add1 F i s a v)
    have hx : X.length = 0 := by
      rw [e2, e, List.length_append, List.length_append] at h
      omega
    have hX : X = [] := List.eq_nil_of_length_eq_zero hx
    rw [hX, List.append_nil] at e
    rcases List.mem_cons.mp hw with rfl | hw
    · exact add1_same (i := i) (by rw [e])
    · rw [e] at h
      exact addW_same i s a ws F h w hw
theorem pass_same {F : List Fd} : ∀ n, (passT M mk F n).length = F.length → ∀ i < n, ∀ st, M[i]? = some st → ∀ w ∈ ways F st.go (mk i) st.la, (st.st, st.lt, w.1, w.2.1) ∈ keys F
  | 0, _, i, hi => by omega
  | n + 1, h, i, hi => by
    rw [passT_succ] at h
    obtain ⟨X, e⟩ := passT_pre M mk F n
    obtain ⟨Y, e2⟩ := useT_pre M mk (passT M mk F n) n
    have hlen := h
    rw [e2, e, List.length_append, List.length_append] at hlen
    have hX : X = [] := List.eq_nil_of_length_eq_zero (by omega)
    rw [hX, List.append_nil] at e
    intro st hst w hw
    by_cases c : i < n
    · exact pass_same n (by rw [e]) i c st hst w hw
    · have hin : i = n := by omega
      subst hin
      rw [e] at h
      unfold useT at h
      rw [hst] at h
      exact addW_same i st.st st.lt _ F h w hw
/-- the table is whole -/
def Whole (M : List Stp) (mk : Nat → Bool) (F : List Fd) : Prop := ∀ (i : Nat) (st : Stp), M[i]? = some st → ∀ w ∈ ways F st.go (mk i) st.la, (st.st, st.lt, w.1, w.2.1) ∈ keys F
theorem Whole.pop {F : List Fd} (c : Mch M mk μ S L) (h : Whole M mk F) {s a r : Nat} {f : Bool} (p : Pd.Pop (dl M) μ s a r f) : (s, a, r, f) ∈ keys F := by
  have at_ : ∀ {s a g : Nat} {l : List Nat}, dl M s a g l → ∃ i, M[i]? = some ⟨s, a, g, l⟩ ∧ mk i = μ a := fun d => by
    obtain ⟨i, hi⟩ := List.mem_iff_getElem?.mp d
    exact ⟨i, hi, c.mks i _ hi⟩
  induction p with
  | p0 d =>
    obtain ⟨i, hi, e⟩ := at_ d
    have := h i _ hi _ ways0
    rwa [e] at this
  | p1 d _ ih =>
    obtain ⟨i, hi, e⟩ := at_ d
    have := h i _ hi _ (ways1 ih rfl rfl)
    rwa [e] at this
  | p2 d _ _ ih1 ih2 =>
    obtain ⟨i, hi, e⟩ := at_ d
    have := h i _ hi _ (ways2 ih1 rfl rfl ih2 rfl rfl)
    rwa [e] at this
/-! ### how many there may be -/
def allE (S L : Nat) : List En := (List.range S).flatMap fun s => (List.range L).flatMap fun a => (List.range S).flatMap fun r => [(s, a, r, false), (s, a, r, true)]
theorem flatc {α : Type} (f : Nat → List α) (c : Nat) (h : ∀ i, (f i).length = c) : ∀ n, ((List.range n).flatMap f).length = n * c
  | 0 => by simp
  | n + 1 => by
    rw [List.range_succ, List.flatMap_append, List.length_append, flatc f c h n]
    simp [h, Nat.succ_mul]
theorem allE_len (S L : Nat) : (allE S L).length = S * (L * (S * 2)) := by
  unfold allE
  refine flatc _ _ (fun s => ?_) _
  refine flatc _ _ (fun a => ?_) _
  exact flatc (fun r => [(s, a, r, false), (s, a, r, true)]) 2 (fun r => rfl) _
theorem Pop_in (c : Mch M mk μ S L) {s a r : Nat} {f : Bool} (p : Pd.Pop (dl M) μ s a r f) : s < S ∧ a < L ∧ r < S := by
  induction p with
  | p0 d => exact ⟨(c.st _ d).1, (c.st _ d).2.2.1, (c.st _ d).2.1⟩
  | p1 d _ ih => exact ⟨(c.st _ d).1, (c.st _ d).2.2.1, ih.2.2⟩
  | p2 d _ _ _ ih => exact ⟨(c.st _ d).1, (c.st _ d).2.2.1, ih.2.2⟩
theorem Tab.len {F : List Fd} (c : Mch M mk μ S L) (t : Tab M μ F) : F.length ≤ S * (L * (S * 2)) := by
  have h := List.Nodup.length_le_of_subset t.nd (l₂ := allE S L) fun e he => by
    obtain ⟨h1, h2, h3⟩ := Pop_in c (t.pop he)
    obtain ⟨s, a, r, f⟩ := e
    unfold allE
    refine List.mem_flatMap.mpr ⟨s, List.mem_range.mpr h1, List.mem_flatMap.mpr ⟨a, List.mem_range.mpr h2, List.mem_flatMap.mpr ⟨r, List.mem_range.mpr h3, ?_⟩⟩⟩
    cases f <;> simp
  rw [allE_len] at h
  simpa [keys] using h
end
end Pr
/-! What is taken off: the table in the heap. -/
namespace Pr
open PySem PySem.Spec PyProof.Rows L2 RT
open C8 (Cal Met Mak pe_c pe_mk pe_mt pe_mt0)
def entD (e : En) : PyData := .tuple [.int e.1, .int e.2.1, .int e.2.2.1, .bool e.2.2.2]
def lk (e : En) : List Leaf := [.num e.1, .num e.2.1, .num e.2.2.1, .num (if e.2.2.2 = true then 1 else 0)]
theorem lk_inj {e e' : En} (h : lk e = lk e') : e = e' := by
  obtain ⟨s, a, r, f⟩ := e
  obtain ⟨s', a', r', f'⟩ := e'
  simp only [lk, List.cons.injEq, Leaf.num.injEq, and_true] at h
  obtain ⟨h1, h2, h3, h4⟩ := h
  have e1 : s = s' := by omega
  have e2 : a = a' := by omega
  have e3 : r = r' := by omega
  have e4 : f = f' := by cases f <;> cases f' <;> simp at h4 <;> rfl
  rw [e1, e2, e3, e4]
theorem key_ent {H : Hp} {e : En} {b : Addr} (h : Rp H (entD e) (.ref b)) : KeyAt H b (lk e) := by
  obtain ⟨b', xs, eb, hb, v1, _, rfl, rfl, v2, _, rfl, rfl, v3, _, rfl, rfl, v4, _, rfl, rfl, rfl⟩ := h
  cases eb
  exact ⟨_, hb, .cons (LfIs.int _) (.cons (LfIs.int _) (.cons (LfIs.int _) (.cons (LfIs.bl _) .nil)))⟩
theorem ent_at {H : Hp} {e : En} {v : V} (h : Rp H (entD e) v) : ∃ b, v = .ref b ∧ H b = some (.tup [.int e.1, .int e.2.1, .int e.2.2.1, .bl e.2.2.2]) := by
  obtain ⟨b', xs, eb, hb, v1, _, rfl, rfl, v2, _, rfl, rfl, v3, _, rfl, rfl, v4, _, rfl, rfl, rfl⟩ := h
  exact ⟨b', eb, hb⟩
theorem ent_of {H : Hp} {e : En} {b : Addr} (h : H b = some (.tup [.int e.1, .int e.2.1, .int e.2.2.1, .bl e.2.2.2])) : Rp H (entD e) (.ref b) := ⟨b, _, rfl, h, .cons rfl (.cons rfl (.cons rfl (.one rfl)))⟩
/-- two lists, item by item -/
def All2 {α β : Type} (R : α → β → Prop) (ds : List α) (vs : List β) : Prop := vs.length = ds.length ∧ ∀ (i : Nat) (v : β), vs[i]? = some v → ∃ d, ds[i]? = some d ∧ R d v
theorem All2.nil {α β : Type} {R : α → β → Prop} : All2 R [] [] := ⟨rfl, fun i v e => by simp at e⟩
theorem All2.imp {α β : Type} {R R' : α → β → Prop} {ds : List α} {vs : List β} (h : All2 R ds vs) (f : ∀ d v, R d v → R' d v) : All2 R' ds vs := ⟨h.1, fun i v e => let ⟨d, a, b⟩ := h.2 i v e; ⟨d, a, f _ _ b⟩⟩
theorem All2.snoc {α β : Type} {R : α → β → Prop} {ds : List α} {vs : List β} {d : α} {v : β} (h : All2 R ds vs) (g : R d v) : All2 R (ds ++ [d]) (vs ++ [v]) := ⟨by rw [List.length_append, List.length_append, h.1]; rfl, fun i u e => by
  by_cases c : i < vs.length
  · rw [List.getElem?_append_left c] at e
    obtain ⟨d, a, b⟩ := h.2 i u e
    exact ⟨d, by rw [List.getElem?_append_left (by rw [← h.1]; exact c)]; exact a, b⟩
  · have hi : i = vs.length := by
      have := (List.getElem?_eq_some_iff.mp e).1
      rw [List.length_append, List.length_singleton] at this
      omega
    subst hi
    rw [List.getElem?_append_right (Nat.le_refl _), Nat.sub_self] at e
    cases (show some v = some u from e)
    exact ⟨d, by rw [List.getElem?_append_right (by rw [h.1]; exact Nat.le_refl _), h.1, Nat.sub_self]; rfl, g⟩⟩
theorem All2.get {α β : Type} {R : α → β → Prop} {ds : List α} {vs : List β} {i : Nat} {d : α} (h : All2 R ds vs) (e : ds[i]? = some d) : ∃ v, vs[i]? = some v ∧ R d v := by
  have hi := (List.getElem?_eq_some_iff.mp e).1
  have hv : vs[i]? = some (vs[i]'(by rw [h.1]; exact hi)) := List.getElem?_eq_getElem _
  obtain ⟨d', a, b⟩ := h.2 i _ hv
  rw [e] at a
  cases a
  exact ⟨_, hv, b⟩
def rowD (x : Fd) : PyData := .tuple [.int x.2.1, .tuple (x.2.2.map entD)]
def RowQ (H : Hp) (x : Fd) (q : QE) : Prop := q.1 = lk x.1 ∧ Rp H (entD x.1) (.ref q.2.1) ∧ Rp H (rowD x) q.2.2
theorem RowQ.at {H H' : Hp} (t : Tups H H') {x : Fd} {q : QE} (h : RowQ H x q) : RowQ H' x q := ⟨h.1, Rp.at t _ _ h.2.1, Rp.at t _ _ h.2.2⟩
theorem rowq_keys {H : Hp} {F : List Fd} {kvs : List QE} (h : All2 (RowQ H) F kvs) : KeysAt H kvs := fun p hp => by
  obtain ⟨i, hi⟩ := List.mem_iff_getElem?.mp hp
  obtain ⟨x, _, h1, h2, _⟩ := h.2 i p hi
  rw [h1]
  exact key_ent h2
theorem valQ_none {H : Hp} {F : List Fd} {kvs : List QE} (h : All2 (RowQ H) F kvs) {e : En} : valQ kvs (lk e) = none ↔ e ∉ keys F := by
  unfold valQ
  rw [Option.map_eq_none_iff, List.find?_eq_none]
  constructor
  · intro n m
    obtain ⟨x, hx, rfl⟩ := List.mem_map.mp m
    obtain ⟨i, hi⟩ := List.mem_iff_getElem?.mp hx
    obtain ⟨q, hq, h1, _⟩ := h.get hi
    exact n q (List.mem_of_getElem? hq) (by rw [h1]; exact decide_eq_true rfl)
  · intro n q hq z
    obtain ⟨i, hi⟩ := List.mem_iff_getElem?.mp hq
    obtain ⟨x, hx, h1, _⟩ := h.2 i q hi
    have z := of_decide_eq_true z
    rw [h1] at z
    exact n (List.mem_map.mpr ⟨x, List.mem_of_getElem? hx, lk_inj z⟩)
theorem valQ_at {H : Hp} {F : List Fd} {kvs : List QE} (h : All2 (RowQ H) F kvs) (nd : (keys F).Nodup) {i : Nat} {x : Fd} (hx : F[i]? = some x) : ∃ v, valQ kvs (lk x.1) = some v ∧ Rp H (rowD x) v := by
  cases e : kvs.find? (fun q => decide (q.1 = lk x.1)) with
  | none =>
    have : valQ kvs (lk x.1) = none := by unfold valQ; rw [e]; rfl
    exact absurd (List.mem_map.mpr ⟨x, List.mem_of_getElem? hx, rfl⟩) ((valQ_none h).mp this)
  | some q =>
    have hq' : decide (q.1 = lk x.1) = true := List.find?_some (p := fun q : QE => decide (q.1 = lk x.1)) e
    have hq := of_decide_eq_true hq'
    obtain ⟨j, hj⟩ := List.mem_iff_getElem?.mp (List.mem_of_find?_eq_some e)
    obtain ⟨y, hy, h1, h2, h3⟩ := h.2 j q hj
    have exy : y.1 = x.1 := lk_inj (h1.symm.trans hq)
    have ij : j = i := by
      have e1 : (keys F)[j]? = some x.1 := by unfold keys; rw [List.getElem?_map, hy]; exact congrArg some exy
      have e2 : (keys F)[i]? = some x.1 := by unfold keys; rw [List.getElem?_map, hx]; rfl
      exact (List.getElem?_inj (List.getElem?_eq_some_iff.mp e1).1 nd).mp (e1.trans e2.symm)
    subst ij
    rw [hx] at hy
    cases hy
    exact ⟨q.2.2, by unfold valQ; rw [e]; rfl, h3⟩
def k2 (s a : Nat) : List Key := [Sum.inl (s : Int), Sum.inl (a : Int)]
theorem k2_inj {s a s' a' : Nat} (h : k2 s a = k2 s' a') : s = s' ∧ a = a' := by
  simp only [k2, List.cons.injEq, Sum.inl.injEq, and_true] at h
  omega
/-- the lists of what leaves (state, letter) -/
structure LevAt (N : Addr → Prop) (H : Hp) (d : Addr) (F : List Fd) : Prop where
  n : N d
  ex : ∃ lvs : List (List Key × V), H d = some (.dT lvs) ∧ lvs.length ≤ F.length ∧ (∀ s a, valV lvs (k2 s a) = none → leav F s a = []) ∧
    (∀ s a v, valV lvs (k2 s a) = some v → ∃ l ys, v = .ref l ∧ N l ∧ H l = some (.lst ys) ∧ RpAll H ((leav F s a).map entD) ys) ∧
    (∀ k k' v, valV lvs k = some v → valV lvs k' = some v → k = k') ∧ ∀ k v, valV lvs k = some v → ∃ s a, k = k2 s a
theorem LevAt.move {N N' : Addr → Prop} {H H' : Hp} {d : Addr} {F : List Fd} (h : LevAt N H d F) (t : Tups H H') (hd : ∀ l, H d = some (.dT l) → N' d ∧ H' d = some (.dT l)) (hl : ∀ x l, N x → H x = some (.lst l) → N' x ∧ H' x = some (.lst l)) : LevAt N' H' d F := by
  obtain ⟨lvs, h1, h2, h3, h4, h5⟩ := h.ex
  obtain ⟨n', h1'⟩ := hd _ h1
  exact ⟨n', lvs, h1', h2, h3, fun s a v e => let ⟨l, ys, e1, e2, e3, e4⟩ := h4 s a v e; ⟨l, ys, e1, (hl l ys e2 e3).1, (hl l ys e2 e3).2, RpAll.at t _ _ e4⟩, h5⟩
section
variable (P : Program) (w : World)
structure FndAt (N : Addr → Prop) (H : Hp) (d : Addr) (F : List Fd) : Prop where
  n : N d
  ex : ∃ kvs : List QE, H d = some (QO P w d kvs) ∧ All2 (RowQ H) F kvs
structure TkAt (K : PySem.W.Frag) (N : Addr → Prop) (H : Hp) (a : Addr) (M : List Stp) (mk : Nat → Bool) (F : List Fd) : Prop where
  ex : ∃ dx mx md fd ld : Addr, ∃ mkv : List (Key × V), H a = some (.ins (He.ga K "TakeOff") dx [("machine", .ref mx), ("marked", .ref md), ("found", .ref fd), ("leaving", .ref ld)]) ∧ McAt K H mx M ∧ H md = some (.dK mkv) ∧ (∀ i : Nat, (valV mkv (Sum.inl ((i : Nat) : Int))).isSome = mk i) ∧ FndAt P w N H fd F ∧ LevAt N H ld F
end
section
variable {P : Program} {w : World} {K : PySem.W.Frag} {mg : Str → Option Value} {base : Heap}
theorem TkAt.same {N : Addr → Prop} {H H' : Hp} {a : Addr} {M : List Stp} {mk : Nat → Bool} {F : List Fd} (h : TkAt P w K N H a M mk F) (e : Same H H') : TkAt P w K N H' a M mk F := by
  obtain ⟨dx, mx, md, fd, ld, mkv, h1, h2, h3, h4, ⟨n5, kvs, h5, h6⟩, h7⟩ := h.ex
  exact ⟨dx, mx, md, fd, ld, mkv, e _ _ h1, h2.same e, e _ _ h3, h4, ⟨n5, kvs, e _ _ h5, h6.imp fun _ _ z => z.at e.tups⟩, h7.move e.tups (fun l z => ⟨h7.n, e _ _ z⟩) fun x l n z => ⟨n, e _ _ z⟩⟩
theorem TkAt.n {N N' : Addr → Prop} {H : Hp} {a : Addr} {M : List Stp} {mk : Nat → Bool} {F : List Fd} (h : TkAt P w K N H a M mk F) (f : ∀ x u, N x → H x = some u → N' x) : TkAt P w K N' H a M mk F := by
  obtain ⟨dx, mx, md, fd, ld, mkv, h1, h2, h3, h4, ⟨n5, kvs, h5, h6⟩, h7⟩ := h.ex
  exact ⟨dx, mx, md, fd, ld, mkv, h1, h2, h3, h4, ⟨f _ _ n5 h5, kvs, h5, h6⟩, h7.move (Tups.refl H) (fun l z => ⟨f _ _ h7.n z, z⟩) fun x l n z => ⟨f _ _ n z, z⟩⟩
def sp_ents (P : Program) (w : World) (K : PySem.W.Frag) : Sp := fun vs H Q _ => ∃ (a : Addr) (s c : Nat) (N : Addr → Prop) (M : List Stp) (mk : Nat → Bool) (F : List Fd), vs = [.ref a, .int s, .int c] ∧ TkAt P w K N H a M mk F ∧
  ∀ (l : Addr) (ys : List V) (H' : Hp), Same H H' → (N l ∨ (H l = none ∧ ys = [])) → H' l = some (.lst ys) → RpAll H' ((leav F s c).map entD) ys → Q (.ref l) H'
abbrev n_TakeOff_entries : List Str := ["self", "state", "letter"]
theorem sc_TakeOff_entries : FnScope n_TakeOff_entries ["self", "state", "letter"] (defScope s_TakeOff_entries) := ⟨rfl, rfl, rfl, by decide +kernel, rfl, by decide +kernel, by decide +kernel⟩
theorem ok_ents (T : Env K mg) : Met P w K mg base 1 (He.ga K "TakeOff") "entries" (sp_ents P w K) [] := by
  obtain ⟨fd, F⟩ := T.F_TakeOff_entries
  refine met_by F T.c_TakeOff T.m_TakeOff_entries (F.bindsN fun _ _ _ _ _ _ us hl => match us, hl with | [_, _, _], _ => rfl) sc_TakeOff_entries (fun vs H Q E h => ?_) (fun cdv A outer s H vs Q E hr h => ?_)
  · obtain ⟨a, s, c, N, M, mk, F, rfl, _⟩ := h
    rfl
  obtain ⟨a, s, c, N, M, mk, F, rfl, hT, k⟩ := h
  obtain ⟨dx, mx, md, fd, ld, mkv, h1, h2, h3, h4, ⟨n5, kvs, h5, h6⟩, ⟨n7, lvs, l1, l2, l3, l4, l5⟩⟩ := hT.ex
  refine ⟨_, pss_one (ps_ret (pe_dget2 (hu_of hr) (pe_fld (pv 0) rfl) (pe_tup (pa_cons (pv 1) (pa_cons (pv 2) pa_nil))) (pe_lst pa_nil) ⟨rfl, rfl, rfl, rfl⟩)), ?_⟩
  refine ⟨_, rfl, a, _, dx, _, _, rfl, h1, T.c_TakeOff, T.n_TakeOff_leaving, rfl, ld, rfl, .inr ⟨lvs, .inl l1⟩, _, rfl, _, rfl, (by show 2 ≤ sizeLine; decide), fun t ht => ⟨Nat.zero_le _, fun nl hnl => ?_⟩⟩
  have s1 := (same_upd (o := .tup [V.int s, V.int c]) ht).new (o := .lst []) hnl
  have ht1 : (upd (upd H t (.tup [V.int s, V.int c])) nl (.lst [])) t = some (.tup ((k2 s c).map kV)) := same_upd hnl _ _ upd_same
  have hn1 : (upd (upd H t (.tup [V.int s, V.int c])) nl (.lst [])) nl = some (.lst []) := upd_same
  have hn0 : H nl = none := (same_upd ht).free hnl
  refine ⟨_, DGet.t (k := k2 s c) (s1 _ _ l1) ht1, ?_⟩
  cases e : valV lvs (k2 s c) with
  | none =>
    refine k nl [] _ s1 (.inr ⟨hn0, rfl⟩) hn1 ?_
    rw [l3 s c e]
    rfl
  | some v =>
    obtain ⟨l, ys, rfl, e2, e3, e4⟩ := l4 s c v e
    exact k l ys _ s1 (.inl e2) (s1 _ _ e3) (RpAll.at s1.tups _ _ e4)
end
end Pr
/-! the rules of PrR2 with the program named -/
namespace Pr
open PySem PySem.Spec PyProof.Rows L2
section
variable {X : Cx} {P : Program} {w : World} {o i value : Expr} {pos pos' : Pos} {td ty tv : TE}
theorem pe_qnewP (hP : X.prog = P) (hw : X.w = w) : PE X (.Dict [] [] pos) (tQNew P w) := by
  subst hP hw
  exact pe_qnew
theorem pe_qgetP (hP : X.prog = P) (hw : X.w = w) (hu : X.A.units + 1 < cLine) (ho : PE X o td) (hi : PE X i ty) (hs : NoSl i) : PE X (.Subscript o i pos) (tQGet P w td ty) := by
  subst hP hw
  exact pe_qget hu ho hi hs
theorem pc_qinP (hP : X.prog = P) (hw : X.w = w) (hu : X.A.units + 1 < cLine) (hi : PE X i ty) (ho : PE X o td) : PC X .In i o (tQIn P w ty td) := by
  subst hP hw
  exact pc_qin hu hi ho
theorem pc_qnotinP (hP : X.prog = P) (hw : X.w = w) (hu : X.A.units + 1 < cLine) (hi : PE X i ty) (ho : PE X o td) : PC X .NotIn i o (tQNotIn P w ty td) := by
  subst hP hw
  exact pc_qnotin hu hi ho
theorem ps_qputP (hP : X.prog = P) (hw : X.w = w) (hu : X.A.units + 1 < cLine) (ho : PE X o td) (hi : PE X i ty) (hv : PE X value tv) (hs : swapsWith value (some (.Subscript o i pos')) pos.line X.env = pure false) :
    PS X (.Assign [.Subscript o i pos'] value pos) (sQPut P w td ty tv) := by
  subst hP hw
  exact ps_qput hu ho hi hv hs
theorem call_lenQP (hP : X.prog = P) (hw : X.w = w) : CallR X (.builtin "len") (fun xs H Q => ∃ (a : Addr) (kvs : List QE), xs = [V.ref a] ∧ H a = some (QO P w a kvs) ∧ KeysAt H kvs ∧ Q (.int ((kvs.length : Nat) : Int)) H) := by
  subst hP hw
  exact call_lenQ
theorem call_list_QP (hP : X.prog = P) (hw : X.w = w) (hc : X.calm = true) : CallR X (.type "list") (fun xs H Q => ∃ (d : Addr) (kvs : List QE), xs = [V.ref d] ∧ H d = some (QO P w d kvs) ∧ KeysAt H kvs ∧ ∀ p, H p = none → Q (.ref p) (upd H p (.lst (kvs.map fun e => V.ref e.2.1)))) := by
  subst hP hw
  exact call_list_Q hc
end
end Pr
/-! What is taken off: one step is used. -/
namespace Pr
open PySem PySem.Spec PyProof.Rows L2 RT
open C8 (Cal Met Mak pe_c pe_mk pe_mt pe_mt0)
def wayD (x : Way) : PyData := .tuple [.int x.1, .bool x.2.1, .tuple (x.2.2.map entD)]
theorem leav_len {M : List Stp} {mk μ S L F} (c : Mch M mk μ S L) (t : Tab M μ F) (s a : Nat) : (leav F s a).length ≤ S * 2 := by
  have nd : (leav F s a).Nodup := t.nd.filter _
  have h := List.Nodup.length_le_of_subset nd (l₂ := (List.range S).flatMap fun r => [(s, a, r, false), (s, a, r, true)]) fun e he => by
    obtain ⟨k, h1, h2⟩ := mem_leav.mp he
    have := (Pop_in c (t.pop k)).2.2
    obtain ⟨s', a', r, f⟩ := e
    simp only at h1 h2
    subst h1 h2
    refine List.mem_flatMap.mpr ⟨r, List.mem_range.mpr this, ?_⟩
    cases f <;> simp
  rw [flatc (fun r => [(s, a, r, false), (s, a, r, true)]) 2 (fun r => rfl)] at h
  exact h
theorem flat_le {α β : Type} (f : α → List β) (c : Nat) : ∀ l : List α, (∀ x, (f x).length ≤ c) → (l.flatMap f).length ≤ l.length * c
  | [], _ => by simp
  | x :: r, h => by
    rw [List.flatMap_cons, List.length_append, List.length_cons, Nat.succ_mul]
    have := flat_le f c r h
    have := h x
    omega
theorem ways_len {M : List Stp} {mk μ S L F} (c : Mch M mk μ S L) (t : Tab M μ F) (hS : S ≤ 4) (go : Nat) (b : Bool) {la : List Nat} (h2 : la.length ≤ 2) : (ways F go b la).length ≤ 64 := by
  have e1 : ∀ x c', (ext1 F c' x).length ≤ 8 := fun x c' => by
    unfold ext1
    rw [List.length_map]
    have := leav_len c t x.1 c'
    omega
  match la, h2 with
  | [], _ => simp [ways]
  | [b'], _ =>
    simp only [ways, List.foldl_cons, List.foldl_nil, extW]
    have := flat_le (ext1 F b') 8 [(go, b, [])] fun x => e1 x b'
    simp only [List.length_cons, List.length_nil] at this
    omega
  | [b', c'], _ =>
    simp only [ways, List.foldl_cons, List.foldl_nil, extW]
    have h1 := flat_le (ext1 F b') 8 [(go, b, [])] fun x => e1 x b'
    have h2 := flat_le (ext1 F c') 8 ([(go, b, [])].flatMap (ext1 F b')) fun x => e1 x c'
    simp only [List.length_cons, List.length_nil] at h1
    omega
  | _ :: _ :: _ :: _, z => simp at z
theorem ways_snoc (F : List Fd) (go : Nat) (b : Bool) (la : List Nat) (c : Nat) : ways F go b (la ++ [c]) = extW F (ways F go b la) c := by
  unfold ways
  rw [List.foldl_append]
  rfl
/-- what is not a list, not a table of tuples, stands -/
def Kps (H H' : Hp) : Prop := ∀ c u, H c = some u → (match u with
  | .ins _ _ _ => True
  | .tup _ => True
  | .dK _ => True
  | _ => False) → H' c = some u
theorem Kps.tups {H H' : Hp} (k : Kps H H') : Tups H H' := fun c xs e => k c _ e trivial
theorem Kps.ins {H H' : Hp} (k : Kps H H') {c C d : Addr} {fs : List (Str × V)} (e : H c = some (.ins C d fs)) : H' c = some (.ins C d fs) := k c _ e trivial
theorem Kps.trans {H H1 H2 : Hp} (a : Kps H H1) (b : Kps H1 H2) : Kps H H2 := fun c u e m => b c u (a c u e m) m
theorem _root_.L2.Same.kps {H H' : Hp} (s : Same H H') : Kps H H' := fun c u e _ => s c u e
theorem kps_lst {H : Hp} {c : Addr} {l : List V} {o : HO} (h : H c = some (.lst l)) : Kps H (upd H c o) := fun b u e m => by
  rw [upd_ne (fun z => by rw [z, h] at e; cases e; exact m)]
  exact e
theorem kps_dT {H : Hp} {c : Addr} {l : List (List Key × V)} {o : HO} (h : H c = some (.dT l)) : Kps H (upd H c o) := fun b u e m => by
  rw [upd_ne (fun z => by rw [z, h] at e; cases e; exact m)]
  exact e
theorem kps_q {P : Program} {w : World} {H : Hp} {c : Addr} {l : List QE} {o : HO} (h : H c = some (QO P w c l)) : Kps H (upd H c o) := fun b u e m => by
  rw [upd_ne (fun z => by rw [z, h] at e; cases e; exact m)]
  exact e
theorem StV.kps {K : PySem.W.Frag} {H H' : Hp} {st : Stp} {v : V} (h : StV K H st v) (k : Kps H H') : StV K H' st v := let ⟨o, dx, t, h1, h2, h3⟩ := h; ⟨o, dx, t, h1, k.ins h2, k.tups _ _ h3⟩
theorem McAt.kps {K : PySem.W.Frag} {H H' : Hp} {a : Addr} {sts : List Stp} (h : McAt K H a sts) (k : Kps H H') : McAt K H' a sts := let ⟨dx, t, S, L, xs, h1, h2, h3⟩ := h; ⟨dx, t, S, L, xs, k.ins h1, k.tups _ _ h2, h3.imp fun _ _ z => z.kps k⟩
theorem cut2 (a b c d : V) : cutV [a, b, c, d] none (some 2) = [a, b] := rfl
theorem cut2_not (a b c d : V) : ¬ (HT.sIx [a, b, c, d].length 0 none = 0 ∧ HT.sIx [a, b, c, d].length [a, b, c, d].length (some 2) = [a, b, c, d].length) := by
  intro z
  exact absurd (show HT.sIx 4 4 (some 2) = 4 from z.2) (by decide)
theorem leav_snoc (F : List Fd) (x : Fd) (s a : Nat) : leav (F ++ [x]) s a = leav F s a ++ (if x.1.1 = s ∧ x.1.2.1 = a then [x.1] else []) := by
  unfold leav
  rw [keys_app, List.filter_append]
  congr 1
  unfold keys
  simp only [List.map_cons, List.map_nil, List.filter_cons, List.filter_nil, Bool.and_eq_true, beq_iff_eq]
theorem LevAt.old {N : Addr → Prop} {H : Hp} {d : Addr} {F : List Fd} {x : Fd} {lvs : List (List Key × V)} {l eb : Addr} {ys : List V} (n : N d) (h1 : H d = some (.dT lvs)) (h2 : lvs.length ≤ F.length) (h3 : ∀ s a, valV lvs (k2 s a) = none → leav F s a = [])
    (h4 : ∀ s a v, valV lvs (k2 s a) = some v → ∃ l ys, v = .ref l ∧ N l ∧ H l = some (.lst ys) ∧ RpAll H ((leav F s a).map entD) ys) (h5 : ∀ k k' v, valV lvs k = some v → valV lvs k' = some v → k = k')
    (h6 : ∀ k v, valV lvs k = some v → ∃ s a, k = k2 s a) (hl : valV lvs (k2 x.1.1 x.1.2.1) = some (.ref l)) (hys : H l = some (.lst ys)) (he : Rp H (entD x.1) (.ref eb)) : LevAt N (upd H l (.lst (ys ++ [.ref eb]))) d (F ++ [x]) := by
  have tp : Tups H (upd H l (.lst (ys ++ [V.ref eb]))) := tups_lst hys
  refine ⟨n, lvs, by rw [upd_ne (fun z => by rw [z, hys] at h1; cases h1)]; exact h1, by rw [List.length_append]; omega, fun s a e => ?_, fun s a v e => ?_, h5, h6⟩
  · rw [leav_snoc, h3 s a e]
    have : ¬ (x.1.1 = s ∧ x.1.2.1 = a) := fun ⟨z1, z2⟩ => by
      rw [z1, z2, e] at hl
      cases hl
    rw [if_neg this]
    rfl
  · obtain ⟨l', ys', rfl, n', h, r⟩ := h4 s a v e
    by_cases c : x.1.1 = s ∧ x.1.2.1 = a
    · obtain ⟨rfl, rfl⟩ := c
      rw [hl] at e
      cases e
      rw [hys] at h
      cases h
      refine ⟨l, ys ++ [.ref eb], rfl, n', upd_same, ?_⟩
      rw [leav_snoc, if_pos ⟨rfl, rfl⟩, List.map_append]
      exact (RpAll.at tp _ _ r).snoc (Rp.at tp _ _ he)
    · have nl : l' ≠ l := fun z => by
        rw [z] at e
        have := k2_inj (h5 _ _ _ hl e)
        exact c this
      refine ⟨l', ys', rfl, n', by rw [upd_ne nl]; exact h, ?_⟩
      rw [leav_snoc, if_neg c, List.append_nil]
      exact RpAll.at tp _ _ r
theorem LevAt.neu {N : Addr → Prop} {H : Hp} {d : Addr} {F : List Fd} {x : Fd} {lvs : List (List Key × V)} {nl eb : Addr} (n : N d) (h1 : H d = some (.dT lvs)) (h2 : lvs.length ≤ F.length) (h3 : ∀ s a, valV lvs (k2 s a) = none → leav F s a = [])
    (h4 : ∀ s a v, valV lvs (k2 s a) = some v → ∃ l ys, v = .ref l ∧ N l ∧ H l = some (.lst ys) ∧ RpAll H ((leav F s a).map entD) ys) (h5 : ∀ k k' v, valV lvs k = some v → valV lvs k' = some v → k = k')
    (h6 : ∀ k v, valV lvs k = some v → ∃ s a, k = k2 s a) (hl : valV lvs (k2 x.1.1 x.1.2.1) = none) (hn : N nl) (hnl : H nl = some (.lst [])) (hno : ∀ k, valV lvs k ≠ some (.ref nl)) (he : Rp H (entD x.1) (.ref eb)) :
    LevAt N (upd (upd H d (.dT (putK lvs (k2 x.1.1 x.1.2.1) (.ref nl)))) nl (.lst [.ref eb])) d (F ++ [x]) := by
  have ndn : d ≠ nl := fun z => by rw [z, hnl] at h1; cases h1
  have t1 : Tups H (upd H d (.dT (putK lvs (k2 x.1.1 x.1.2.1) (.ref nl)))) := fun c xs e => by rw [upd_ne (fun z => by rw [z, h1] at e; cases e)]; exact e
  have hnl1 : (upd H d (.dT (putK lvs (k2 x.1.1 x.1.2.1) (.ref nl)))) nl = some (.lst []) := by rw [upd_ne (Ne.symm ndn)]; exact hnl
  have tp := t1.trans (tups_lst (o := .lst [V.ref eb]) hnl1)
  refine ⟨n, putK lvs (k2 x.1.1 x.1.2.1) (.ref nl), by rw [upd_ne ndn]; exact upd_same, by rw [List.length_append]; have := length_putK lvs (k2 x.1.1 x.1.2.1) (V.ref nl); simp; omega, fun s a e => ?_, fun s a v e => ?_, fun k k' v e e' => ?_, fun k v e => ?_⟩
  · rw [valV_put] at e
    by_cases c : k2 s a = k2 x.1.1 x.1.2.1
    · rw [if_pos c] at e
      cases e
    · rw [if_neg c] at e
      rw [leav_snoc, h3 s a e, if_neg (fun ⟨z1, z2⟩ => c (by rw [z1, z2]))]
      rfl
  · rw [valV_put] at e
    by_cases c : k2 s a = k2 x.1.1 x.1.2.1
    · rw [if_pos c] at e
      cases e
      obtain ⟨rfl, rfl⟩ := k2_inj c
      refine ⟨nl, [.ref eb], rfl, hn, upd_same, ?_⟩
      rw [leav_snoc, h3 _ _ hl, if_pos ⟨rfl, rfl⟩]
      exact .one (Rp.at tp _ _ he)
    · rw [if_neg c] at e
      obtain ⟨l', ys', rfl, n', h, r⟩ := h4 s a v e
      have nn : l' ≠ nl := fun z => hno _ (by rw [← z]; exact e)
      have nd : l' ≠ d := fun z => by rw [z, h1] at h; cases h
      refine ⟨l', ys', rfl, n', by rw [upd_ne nn, upd_ne nd]; exact h, ?_⟩
      rw [leav_snoc, if_neg (fun ⟨z1, z2⟩ => c (by rw [z1, z2])), List.append_nil]
      exact RpAll.at tp _ _ r
  · rw [valV_put] at e e'
    by_cases c : k = k2 x.1.1 x.1.2.1
    · by_cases c' : k' = k2 x.1.1 x.1.2.1
      · rw [c, c']
      · rw [if_pos c] at e
        rw [if_neg c'] at e'
        cases e
        exact absurd e' (hno _)
    · by_cases c' : k' = k2 x.1.1 x.1.2.1
      · rw [if_pos c'] at e'
        rw [if_neg c] at e
        cases e'
        exact absurd e (hno _)
      · rw [if_neg c] at e
        rw [if_neg c'] at e'
        exact h5 _ _ _ e e'
  · rw [valV_put] at e
    by_cases c : k = k2 x.1.1 x.1.2.1
    · exact ⟨_, _, c⟩
    · rw [if_neg c] at e
      exact h6 _ _ e
section
variable {P : Program} {w : World} {K : PySem.W.Frag} {mg : Str → Option Value} {base : Heap}
def sp_use (P : Program) (w : World) (K : PySem.W.Frag) : Sp := fun vs H Q _ => ∃ (a : Addr) (i : Nat) (H0 : Hp) (M : List Stp) (mk μ : Nat → Bool) (S L : Nat) (F : List Fd), vs = [.ref a, .int i] ∧ Same H0 H ∧ TkAt P w K (fun x => H0 x = none) H a M mk F ∧ Mch M mk μ S L ∧ Tab M μ F ∧ S ≤ 4 ∧ L ≤ 20 ∧ i < M.length ∧
  ∀ H', Same H0 H' → TkAt P w K (fun x => H0 x = none) H' a M mk (useT M mk F i) → Q .non H'
abbrev n_TakeOff_use : List Str := ["self", "index", "step", "ways", "letter", "longer", "state", "flag", "parts", "entry"]
theorem sc_TakeOff_use : FnScope n_TakeOff_use ["self", "index"] (defScope s_TakeOff_use) := ⟨rfl, rfl, rfl, by decide +kernel, rfl, by decide +kernel, by decide +kernel⟩
theorem ok_use (T : Env K mg) (c_TakeOff_entries : Met P w K mg base 1 (He.ga K "TakeOff") "entries" (sp_ents P w K) []) : Met P w K mg base 2 (He.ga K "TakeOff") "use" (sp_use P w K) [] := by
  obtain ⟨fd, F⟩ := T.F_TakeOff_use
  refine met_by F T.c_TakeOff T.m_TakeOff_use (F.bindsN fun _ _ _ _ _ _ us hl => match us, hl with | [_, _], _ => rfl) sc_TakeOff_use (fun vs H Q E h => ?_) (fun cdv A outer s H vs Q E hr h => ?_)
  · obtain ⟨a, i, H0, M, mk, μ, S, L, F, rfl, _⟩ := h
    rfl
  obtain ⟨a, i, H0, M, mk, μ, S, L, F, rfl, sm0, hT, hc, tab, hS, hL, hi, k⟩ := h
  obtain ⟨dx, mx, md, fd, ld, mkv, h1, ⟨dxm, t, S', L', xs, m1, m2, m3⟩, h3, h4, _, _⟩ := hT.ex
  obtain ⟨st, hst⟩ : ∃ st, M[i]? = some st := ⟨_, List.getElem?_eq_getElem hi⟩
  obtain ⟨_, hv, o, dxo, la, rfl, ho, hla⟩ := m3.get hst
  have two := (hc.st st (List.mem_of_getElem? hst)).2.2.2.1
  refine ⟨_, pss_cons (ps_set (i := 2) sc_TakeOff_use.nd rfl (Or.inl rfl) (pe_ix ix_tup (pe_fld (pe_fld (pv 0) rfl) rfl) (pv 1) (fun _ _ => rfl)))
      (pss_cons (ps_set (i := 3) sc_TakeOff_use.nd rfl (Or.inl rfl) (pe_lst (pa_cons (pe_tup (pa_cons (pe_fld (pv 2) rfl) (pa_cons (pe_cmp (pc_din (hu_of hr) (pv 1) (pe_fld (pv 0) rfl)) rfl) (pa_cons (pe_tup pa_nil) pa_nil)))) pa_nil)))
      (pss_cons (ps_for PassesOwn.never rfl (pi_tup (pe_fld (pv 2) rfl)) (pg_name (i := 4) sc_TakeOff_use.nd rfl (Or.inl rfl))
        (pss_cons (ps_set (i := 5) sc_TakeOff_use.nd rfl (Or.inl rfl) (pe_lst pa_nil))
        (pss_cons (ps_for PassesOwn.never rfl (pi_list (pv 3)) (pg_tup (by rfl) (pgs_cons (pg_name (i := 6) sc_TakeOff_use.nd rfl (Or.inl rfl)) (pgs_cons (pg_name (i := 7) sc_TakeOff_use.nd rfl (Or.inl rfl)) (pgs_cons (pg_name (i := 8) sc_TakeOff_use.nd rfl (Or.inl rfl)) pgs_nil))))
          (pss_one (ps_for PassesOwn.never rfl (pi_list (pe_mt c_TakeOff_entries hr (by omega) (pv 0) (pa_cons (pv 6) (pa_cons (pv 4) pa_nil)))) (pg_name (i := 9) sc_TakeOff_use.nd rfl (Or.inl rfl))
            (pss_one (ps_expr (pe_bm PySem.F.plainAttrs_list PySem.F.slot_list_append PySem.F.type_list_append mt_append (pv 5) (pa_cons (pe_tup (pa_cons (pe_ix ix_tup (pv 9) pe_int (fun _ _ => rfl)) (pa_cons (pe_or (pv 7) (pe_one (pe_ix ix_tup (pv 9) pe_int (fun _ _ => rfl)))) (pa_cons (pe_op op_catA (pv 8) (pe_tup (pa_cons (pv 9) pa_nil))) pa_nil)))) pa_nil)))))))
        (pss_one (ps_set (i := 3) sc_TakeOff_use.nd rfl (Or.inl rfl) (pv 5))))))
      (pss_one (ps_for PassesOwn.never rfl (pi_list (pv 3)) (pg_tup (by rfl) (pgs_cons (pg_name (i := 6) sc_TakeOff_use.nd rfl (Or.inl rfl)) (pgs_cons (pg_name (i := 7) sc_TakeOff_use.nd rfl (Or.inl rfl)) (pgs_cons (pg_name (i := 8) sc_TakeOff_use.nd rfl (Or.inl rfl)) pgs_nil))))
        (pss_cons (ps_set (i := 9) sc_TakeOff_use.nd rfl (Or.inl rfl) (pe_tup (pa_cons (pe_fld (pv 2) rfl) (pa_cons (pe_fld (pv 2) rfl) (pa_cons (pv 6) (pa_cons (pv 7) pa_nil))))))
        (pss_one (ps_if (pt_cmp (pc_qnotinP (P := P) (w := w) rfl rfl (hu_of hr) (pv 9) (pe_fld (pv 0) rfl)))
          (pss_cons (ps_qputP (P := P) (w := w) rfl rfl (hu_of hr) (pe_fld (pv 0) rfl) (pv 9) (pe_tup (pa_cons (pv 1) (pa_cons (pv 8) pa_nil))) rfl)
          (pss_one (ps_expr (pe_bm PySem.F.plainAttrs_list PySem.F.slot_list_append PySem.F.type_list_append mt_append (pe_tsetd (hu_of hr) (pe_fld (pv 0) rfl) (pe_slice sl_tupA (pv 9) po_none (po_some pe_int)) (pe_lst pa_nil) ⟨rfl, rfl, rfl, rfl⟩) (pa_cons (pv 9) pa_nil)))))
          pss_nil))))))), ?_⟩
  refine ⟨_, rfl, a, _, dx, _, _, rfl, h1, T.c_TakeOff, T.n_TakeOff_machine, rfl, mx, _, dxm, _, _, rfl, m1, T.c_Machine, T.n_Machine_steps, rfl, _, rfl, t, _, i, _, rfl, rfl, SqT.of m2, atI_nat hv, ?_⟩
  refine ⟨_, rfl, o, _, dxo, _, _, rfl, ho, T.c_Step, T.n_Step_goal, rfl, _, rfl, _, rfl, a, _, dx, _, _, rfl, h1, T.c_TakeOff, T.n_TakeOff_marked, rfl, md, _, rfl, DGet.k (k := Sum.inl ((i : Nat) : Int)) h3, ?_⟩
  rw [h4 i]
  refine ⟨Nat.zero_le _, fun z hz => ⟨(by show 3 ≤ sizeLine; decide), fun t1 ht1 => ⟨(by show 1 ≤ sizeLine; decide), fun wl hwl => ?_⟩⟩⟩
  have s1 := ((same_upd (o := .tup []) hz).new (o := .tup [V.int st.go, V.bl (mk i), V.ref z]) ht1).new (o := .lst [V.ref t1]) hwl
  have r1 : Rp (upd (upd (upd H z (.tup [])) t1 (.tup [V.int st.go, V.bl (mk i), V.ref z])) wl (.lst [V.ref t1])) (wayD (st.go, mk i, [])) (.ref t1) :=
    Rp.at (same_upd hwl).tups _ _ (Rp.new ht1 (.cons rfl (.cons rfl (.one ⟨z, [], rfl, upd_same, rfl⟩))))
  have hwl1 : (upd (upd (upd H z (.tup [])) t1 (.tup [V.int st.go, V.bl (mk i), V.ref z])) wl (.lst [V.ref t1])) wl = some (.lst [V.ref t1]) := upd_same
  generalize upd (upd (upd H z (.tup [])) t1 (.tup [V.int st.go, V.bl (mk i), V.ref z])) wl (.lst [V.ref t1]) = H1 at *
  refine ⟨_, rfl, o, _, dxo, _, _, rfl, s1 _ _ ho, T.c_Step, T.n_Step_laid, rfl, la, rfl, ⟨_, SqT.of (s1 _ _ hla)⟩, ?_⟩
  -- the ways
  refine for_it (walk_tup (K := K) (a := la) (xs := st.la.map fun n : Nat => V.int (n : Int))) (fun j σ H2 => ∃ (wj : Addr) (ws : List V) (x4 x5 x6 x7 x8 x9 : Option V), σ = [some (.ref a), some (.int i), some (.ref o), some (.ref wj), x4, x5, x6, x7, x8, x9] ∧ Same H H2 ∧ H wj = none ∧ H2 wj = some (.lst ws) ∧ RpAll H2 ((ways F st.go (mk i) (st.la.take j)).map wayD) ws)
    ⟨wl, [.ref t1], _, _, _, _, _, _, rfl, s1, (((same_upd hz).new ht1).free hwl), hwl1, .one r1⟩ (fun j σ H2 _ ⟨_, _, _, _, _, _, _, _, _, z, _⟩ => SqT.of (z _ _ hla)) ?_ ?_
  · rintro j cv σ _ H2 hj ⟨wj, ws, x4, x5, x6, x7, x8, x9, rfl, s2, wj0, hwj, hws⟩ ⟨rfl, hcj⟩
    rw [List.getElem?_map] at hcj
    obtain ⟨c, hcc, rfl⟩ := Option.map_eq_some_iff.mp hcj
    have wl64 := ways_len hc tab hS st.go (mk i) (la := st.la.take j) (by rw [List.length_take]; omega)
    have wsl : ws.length = (ways F st.go (mk i) (st.la.take j)).length := by rw [hws.len, List.length_map]
    have etk : st.la.take (j + 1) = st.la.take j ++ [c] := by rw [List.take_add_one, hcc]; rfl
    refine ⟨Nat.zero_le _, fun lo hlo => ?_⟩
    have s3 := s2.new (o := .lst []) hlo
    have lo0 := s2.free hlo
    have sl := same_upd (o := .lst []) hlo
    have hwj3 := sl _ _ hwj
    have hws3 := RpAll.at sl.tups _ _ hws
    have hlo3 : (upd H2 lo (.lst [])) lo = some (.lst []) := upd_same
    have nlw : lo ≠ wj := Ne.symm (ne_of_none hwj hlo)
    generalize upd H2 lo (.lst []) = H3 at *
    generalize hWW : ways F st.go (mk i) (st.la.take j) = W at *
    have el8 : ∀ x, (ext1 F c x).length ≤ 8 := fun x => by
      unfold ext1
      rw [List.length_map]
      have := leav_len hc tab x.1 c
      omega
    refine ⟨_, rfl, wj, rfl, ⟨_, SqL.of hwj3⟩, for_it (walk_list (K := K) (a := wj) (xs := ws)) (fun q σ H4 => ∃ (zs : List V) (x6 x7 x8 x9 : Option V), σ = [some (.ref a), some (.int i), some (.ref o), some (.ref wj), some (.int c), some (.ref lo), x6, x7, x8, x9] ∧ Same H H4 ∧ SameB (· = lo) H3 H4 ∧ H4 lo = some (.lst zs) ∧ RpAll H4 (((W.take q).flatMap (ext1 F c)).map wayD) zs)
      ⟨[], _, _, _, _, rfl, s3, fun _ _ e _ => e, hlo3, rfl⟩ (fun q σ H4 _ ⟨_, _, _, _, _, _, _, z, _⟩ => SqL.of (z _ _ hwj3 (Ne.symm nlw))) ?_ ?_⟩
    · rintro q wv σ _ H4 hq ⟨zs, y6, y7, y8, y9, rfl, s4, sb4, hlo4, hzs⟩ ⟨rfl, hwq⟩
      have tp4 : Tups H3 H4 := fun b ys e => sb4 _ _ e fun z => by
        rw [show b = lo from z, hlo3] at e
        cases e
      obtain ⟨d, hdq, rd⟩ := hws3.getV hwq
      rw [List.getElem?_map] at hdq
      obtain ⟨x, hx, rfl⟩ := Option.map_eq_some_iff.mp hdq
      obtain ⟨wt, _, rfl, hwt, v1, _, rfl, rfl, v2, _, rfl, rfl, pv, _, rfl, hpv, rfl⟩ := Rp.at tp4 _ _ rd
      obtain ⟨pa, pxs, rfl, hpa, hpx⟩ := id hpv
      refine ⟨wt, _, rfl, SqT.of hwt, rfl, _, _, rfl, _, _, rfl, _, _, rfl, rfl, ?_⟩
      have hT4 : TkAt P w K (fun x => ∃ u, H x = some u) H4 a M mk F := (hT.n fun x u _ e => ⟨u, e⟩).same s4
      obtain ⟨dx4, _, _, _, _, _, g1, _⟩ := hT4.ex
      refine ⟨_, rfl, a, dx4, _, rfl, g1, rfl, _, rfl, _, rfl, a, x.1, c, _, M, mk, F, rfl, hT4, fun l ys H5 s5 hl hl5 hys => ?_⟩
      have nll : l ≠ lo := by
        rcases hl with ⟨u, e⟩ | ⟨e, _⟩
        · exact fun z => by rw [z, lo0] at e; cases e
        · exact fun z => by rw [z, hlo4] at e; cases e
      have ysl : ys.length = (leav F x.1 c).length := by rw [hys.len, List.length_map]
      have lv8 := leav_len hc tab x.1 c
      refine ⟨l, rfl, ⟨_, SqL.of hl5⟩, for_it (walk_list (K := K) (a := l) (xs := ys)) (fun e σ H6 => ∃ (zs' : List V) (x9 : Option V), σ = [some (.ref a), some (.int i), some (.ref o), some (.ref wj), some (.int c), some (.ref lo), some (.int x.1), some (.bl x.2.1), some (.ref pa), x9] ∧ Same H H6 ∧ SameB (· = lo) H5 H6 ∧ H6 lo = some (.lst zs') ∧
          RpAll H6 (((W.take q).flatMap (ext1 F c) ++ ((leav F x.1 c).take e).map fun e => (e.2.2.1, x.2.1 || e.2.2.2, x.2.2 ++ [e])).map wayD) zs')
        ⟨zs, _, rfl, s4.trans s5, fun _ _ e _ => e, s5 _ _ hlo4, by rw [List.take_zero, List.map_nil, List.append_nil]; exact RpAll.at s5.tups _ _ hzs⟩ (fun e σ H6 _ ⟨_, _, _, _, z, _⟩ => SqL.of (z _ _ hl5 nll)) ?_ ?_⟩
      · rintro e ev σ _ H6 he ⟨zs', y9', rfl, s6, sb6, hlo6, hzs6⟩ ⟨rfl, hev⟩
        have tp6 : Tups H5 H6 := fun b ys e => sb6 _ _ e fun z => by
          rw [show b = lo from z, s5 _ _ hlo4] at e
          cases e
        obtain ⟨d, hde, rde⟩ := hys.getV hev
        rw [List.getElem?_map] at hde
        obtain ⟨en, hen, rfl⟩ := Option.map_eq_some_iff.mp hde
        have ren := Rp.at tp6 _ _ rde
        obtain ⟨eb, rfl, heb⟩ := ent_at ren
        have hpa6 := tp6 _ _ (s5.tups _ _ hpa)
        have zl : zs'.length ≤ 64 * 8 + 8 := by
          rw [hzs6.len, List.length_map, List.length_append, List.length_map, List.length_take]
          have h1 := flat_le (ext1 F c) 8 (W.take q) el8
          have h2 : (W.take q).length ≤ 64 := by rw [List.length_take]; omega
          have h3 : (W.take q).length * 8 ≤ 64 * 8 := Nat.mul_le_mul_right _ h2
          omega
        have pl2 : pxs.length ≤ 2 := by
          have hm : x ∈ W := List.mem_of_getElem? hx
          rw [← hWW] at hm
          have := (ways_ok (by rw [List.length_take]; omega) x hm).len
          rw [hpx.len, List.length_map, this, List.length_take]
          omega
        refine ⟨_, rfl, .inl ⟨rfl, _, SqL.of hlo6⟩, _, rfl, eb, _, _, _, rfl, rfl, SqT.of heb, rfl, _, rfl, ?_⟩
        have fin : ∀ (fl : Bool), fl = (x.2.1 || en.2.2.2) → ∀ (Hc : Hp) (cc : Addr), Same H6 Hc → Rp Hc (.tuple ((x.2.2 ++ [en]).map entD)) (.ref cc) → ∀ wt2, Hc wt2 = none →
            (upd Hc wt2 (.tup [V.int en.2.2.1, V.bl fl, V.ref cc])) lo = some (.lst zs') ∧ Same H (upd (upd Hc wt2 (.tup [V.int en.2.2.1, V.bl fl, V.ref cc])) lo (.lst (zs' ++ [V.ref wt2]))) ∧ SameB (· = lo) H5 (upd (upd Hc wt2 (.tup [V.int en.2.2.1, V.bl fl, V.ref cc])) lo (.lst (zs' ++ [V.ref wt2]))) ∧
            RpAll (upd (upd Hc wt2 (.tup [V.int en.2.2.1, V.bl fl, V.ref cc])) lo (.lst (zs' ++ [V.ref wt2]))) (((W.take q).flatMap (ext1 F c) ++ ((leav F x.1 c).take (e + 1)).map fun e => (e.2.2.1, x.2.1 || e.2.2.2, x.2.2 ++ [e])).map wayD) (zs' ++ [V.ref wt2]) := by
          rintro fl rfl Hc cc u2 rp wt2 hwt2
          have u3 := u2.new (o := .tup [V.int en.2.2.1, V.bl (x.2.1 || en.2.2.2), V.ref cc]) hwt2
          have hlo7 := u3 _ _ hlo6
          have rw3 : Rp (upd Hc wt2 (.tup [V.int en.2.2.1, V.bl (x.2.1 || en.2.2.2), V.ref cc])) (wayD (en.2.2.1, x.2.1 || en.2.2.2, x.2.2 ++ [en])) (.ref wt2) := Rp.new hwt2 (.cons rfl (.cons rfl (.one rp)))
          generalize upd Hc wt2 (.tup [V.int en.2.2.1, V.bl (x.2.1 || en.2.2.2), V.ref cc]) = H7 at *
          have tp7 : Tups H7 (upd H7 lo (.lst (zs' ++ [V.ref wt2]))) := tups_lst hlo7
          refine ⟨hlo7, (s6.trans u3).mut lo0, SameB.upd (fun b u e n => u3 _ _ (sb6 b u e n)) rfl, ?_⟩
          have el : ((leav F x.1 c).take (e + 1)).map (fun e => (e.2.2.1, x.2.1 || e.2.2.2, x.2.2 ++ [e])) = ((leav F x.1 c).take e).map (fun e => (e.2.2.1, x.2.1 || e.2.2.2, x.2.2 ++ [e])) ++ [(en.2.2.1, x.2.1 || en.2.2.2, x.2.2 ++ [en])] := by
            rw [List.take_add_one, hen, List.map_append]
            rfl
          rw [el, ← List.append_assoc, List.map_append (l₂ := [(en.2.2.1, x.2.1 || en.2.2.2, x.2.2 ++ [en])])]
          exact RpAll.at tp7 _ _ ((RpAll.at u3.tups _ _ hzs6).snoc rw3)
        have rpx : ∀ {Hc : Hp}, Same H6 Hc → RpAll Hc (x.2.2.map entD) pxs := fun u => RpAll.at (tp6.trans u.tups) _ _ (RpAll.at s5.tups _ _ hpx)
        have cat0 : pxs = [] → ∀ tt, H6 tt = none → Rp (upd H6 tt (.tup [V.ref eb])) (.tuple ((x.2.2 ++ [en]).map entD)) (.ref tt) := fun e0 tt htt => by
          have x0 : x.2.2 = [] := by
            have := hpx.len
            rw [e0, List.length_map] at this
            exact List.eq_nil_of_length_eq_zero this.symm
          rw [x0]
          exact Rp.new htt (.one ren)
        have cat1 : ∀ tt, H6 tt = none → ∀ cc, (upd H6 tt (.tup [V.ref eb])) cc = none → Rp (upd (upd H6 tt (.tup [V.ref eb])) cc (.tup (pxs ++ [V.ref eb]))) (.tuple ((x.2.2 ++ [en]).map entD)) (.ref cc) := fun tt htt cc hcc => by
          rw [List.map_append]
          exact Rp.new hcc ((rpx (same_upd htt)).snoc (Rp.at (same_upd htt).tups _ _ ren))
        refine ⟨_, rfl, ite2 (fun cf => ?_) (fun cf => ?_)⟩
        · refine ⟨_, rfl, _, rfl, (by show 1 ≤ sizeLine; decide), fun tt htt => ?_⟩
          refine ⟨pa, tt, pxs, [.ref eb], rfl, rfl, SqT.of (same_upd htt _ _ hpa6), SqT.of upd_same, small (by simp; omega), fun e0 => ?_, fun _ e1 => by simp at e1, fun _ _ cc hcc => ?_⟩
          · refine ⟨(by show 3 ≤ sizeLine; decide), fun wt2 hwt2 => ?_⟩
            obtain ⟨q1, q2, q3, q4⟩ := fin true (by rw [cf, Bool.true_or]) _ tt (same_upd htt) (cat0 e0 tt htt) wt2 hwt2
            exact ⟨lo, _, _, rfl, rfl, q1, smallL (by omega), _, _, rfl, q2, q3, upd_same, q4⟩
          · refine ⟨(by show 3 ≤ sizeLine; decide), fun wt2 hwt2 => ?_⟩
            obtain ⟨q1, q2, q3, q4⟩ := fin true (by rw [cf, Bool.true_or]) _ cc ((same_upd htt).new hcc) (cat1 tt htt cc hcc) wt2 hwt2
            exact ⟨lo, _, _, rfl, rfl, q1, smallL (by omega), _, _, rfl, q2, q3, upd_same, q4⟩
        · refine ⟨_, rfl, eb, _, _, _, rfl, rfl, SqT.of heb, rfl, ?_⟩
          refine ⟨_, rfl, _, rfl, (by show 1 ≤ sizeLine; decide), fun tt htt => ?_⟩
          refine ⟨pa, tt, pxs, [.ref eb], rfl, rfl, SqT.of (same_upd htt _ _ hpa6), SqT.of upd_same, small (by simp; omega), fun e0 => ?_, fun _ e1 => by simp at e1, fun _ _ cc hcc => ?_⟩
          · refine ⟨(by show 3 ≤ sizeLine; decide), fun wt2 hwt2 => ?_⟩
            obtain ⟨q1, q2, q3, q4⟩ := fin en.2.2.2 (by rw [Bool.eq_false_iff.mpr cf, Bool.false_or]) _ tt (same_upd htt) (cat0 e0 tt htt) wt2 hwt2
            exact ⟨lo, _, _, rfl, rfl, q1, smallL (by omega), _, _, rfl, q2, q3, upd_same, q4⟩
          · refine ⟨(by show 3 ≤ sizeLine; decide), fun wt2 hwt2 => ?_⟩
            obtain ⟨q1, q2, q3, q4⟩ := fin en.2.2.2 (by rw [Bool.eq_false_iff.mpr cf, Bool.false_or]) _ cc ((same_upd htt).new hcc) (cat1 tt htt cc hcc) wt2 hwt2
            exact ⟨lo, _, _, rfl, rfl, q1, smallL (by omega), _, _, rfl, q2, q3, upd_same, q4⟩
      · rintro σ H6 ⟨zs', y9', rfl, s6, sb6, hlo6, hzs6⟩
        refine ⟨zs', _, _, _, _, rfl, s6, fun b u e n => sb6 _ _ (s5 _ _ (sb4 b u e n)) n, hlo6, ?_⟩
        rw [ysl, List.take_length] at hzs6
        rw [List.take_add_one, hx, List.flatMap_append]
        simpa [ext1] using hzs6
    · rintro σ H4 ⟨zs, y6, y7, y8, y9, rfl, s4, sb4, hlo4, hzs⟩
      rw [wsl, List.take_length] at hzs
      refine ⟨_, rfl, lo, zs, _, _, _, _, _, _, rfl, s4, lo0, hlo4, ?_⟩
      rw [etk, ways_snoc, hWW]
      exact hzs
  · rintro σ H2 ⟨wj, ws, x4, x5, x6, x7, x8, x9, rfl, s2, wj0, hwj, hws⟩
    rw [List.length_map, List.take_length] at hws
    generalize hWW : ways F st.go (mk i) st.la = W at *
    have wok : ∀ x ∈ W, WayOk F st.go (mk i) st.la x := fun x hx => ways_ok two x (by rw [hWW]; exact hx)
    have wsl : ws.length = W.length := by rw [hws.len, List.length_map]
    have wl64 := ways_len hc tab hS st.go (mk i) (la := st.la) two
    rw [hWW] at wl64
    have hT2 : TkAt P w K (fun x => H0 x = none ∧ x ≠ wj) H2 a M mk F := (hT.n (N' := fun x => H0 x = none ∧ x ≠ wj) fun x u n e => ⟨n, fun z => by rw [z, wj0] at e; cases e⟩).same s2
    have Fl := tab.len hc
    have Fl2 : F.length ≤ 640 := by
      have h1 : S * (L * (S * 2)) ≤ 4 * (20 * (4 * 2)) := Nat.mul_le_mul hS (Nat.mul_le_mul hL (by omega))
      omega
    have addlen : ∀ q, (addW i st.st st.lt (W.take q) F).length ≤ 640 + q := by
      intro q
      have gen : ∀ (ws : List Way) (F : List Fd), (addW i st.st st.lt ws F).length ≤ F.length + ws.length := by
        intro ws
        induction ws with
        | nil => intro F; exact Nat.le_refl _
        | cons v r ih =>
          intro F
          have h1 := ih (add1 F i st.st st.lt v)
          have h2 : (add1 F i st.st st.lt v).length ≤ F.length + 1 := by
            unfold Pr.add1
            split
            · omega
            · simp
          show (addW i st.st st.lt r (add1 F i st.st st.lt v)).length ≤ _
          rw [List.length_cons]
          omega
      have h1 := gen (W.take q) F
      have h2 : (W.take q).length ≤ q := by rw [List.length_take]; exact Nat.min_le_left _ _
      omega
    have bm := hc.mks i st hst
    refine ⟨_, rfl, wj, rfl, ⟨_, SqL.of hwj⟩, for_it (walk_list (K := K) (a := wj) (xs := ws)) (fun q σ H3 => ∃ (x4 x5 x6 x7 x8 x9 : Option V), σ = [some (.ref a), some (.int i), some (.ref o), some (.ref wj), x4, x5, x6, x7, x8, x9] ∧ Same H0 H3 ∧ Tups H2 H3 ∧ H3 wj = some (.lst ws) ∧
        H3 o = some (.ins (He.ga K "Step") dxo [("state", .int st.st), ("letter", .int st.lt), ("goal", .int st.go), ("laid", .ref la), ("weight", .int 1)]) ∧ Tab M μ (addW i st.st st.lt (W.take q) F) ∧ TkAt P w K (fun x => H0 x = none ∧ x ≠ wj) H3 a M mk (addW i st.st st.lt (W.take q) F))
      ⟨_, _, _, _, _, _, rfl, sm0.trans s2, Tups.refl H2, hwj, s2 _ _ ho, tab, hT2⟩ (fun q σ H3 _ ⟨_, _, _, _, _, _, _, _, _, z, _⟩ => SqL.of z) ?_ ?_⟩
    · rintro q wv σ _ H3 hq ⟨y4, y5, y6, y7, y8, y9, rfl, s3, t3, hwj3, ho3, tab3, hT3⟩ ⟨rfl, hwq⟩
      obtain ⟨d, hdq, rd⟩ := hws.getV hwq
      rw [List.getElem?_map] at hdq
      obtain ⟨x, hx, rfl⟩ := Option.map_eq_some_iff.mp hdq
      obtain ⟨wt, _, rfl, hwt, v1, _, rfl, rfl, v2, _, rfl, rfl, pv, _, rfl, hpv, rfl⟩ := Rp.at t3 _ _ rd
      have eadd : addW i st.st st.lt (W.take (q + 1)) F = add1 (addW i st.st st.lt (W.take q) F) i st.st st.lt x := by
        unfold addW
        rw [List.take_add_one, hx, List.foldl_append]
        rfl
      have F3 := addlen q
      have xok := (wok x (List.mem_of_getElem? hx)).mono (F' := addW i st.st st.lt (W.take q) F) fun e m => by
        obtain ⟨X, eX⟩ := addW_pre i st.st st.lt (W.take q) F
        rw [eX, keys_app]
        exact List.mem_append_left _ m
      have tab4 := tab3.add1 hst two bm xok
      rw [eadd]
      generalize addW i st.st st.lt (W.take q) F = F3' at *
      refine ⟨wt, _, rfl, SqT.of hwt, rfl, _, _, rfl, _, _, rfl, _, _, rfl, rfl, ?_⟩
      refine ⟨_, rfl, o, _, dxo, _, _, rfl, ho3, T.c_Step, T.n_Step_state, rfl, _, rfl, o, _, dxo, _, _, rfl, ho3, T.c_Step, T.n_Step_letter, rfl, _, rfl, _, rfl, (by show 4 ≤ sizeLine; decide), fun eb heb => ?_⟩
      have s4 := same_upd (o := .tup [V.int st.st, V.int st.lt, V.int x.1, V.bl x.2.1]) heb
      have ren : Rp (upd H3 eb (.tup [V.int st.st, V.int st.lt, V.int x.1, V.bl x.2.1])) (entD (st.st, st.lt, x.1, x.2.1)) (.ref eb) := ent_of upd_same
      have hebt : (upd H3 eb (.tup [V.int st.st, V.int st.lt, V.int x.1, V.bl x.2.1])) eb = some (.tup [V.int st.st, V.int st.lt, V.int x.1, V.bl x.2.1]) := upd_same
      have hT4 := hT3.same s4
      have s04 := s3.trans s4
      have t4 := t3.trans s4.tups
      have hwj4 := s4 _ _ hwj3
      have ho4 := s4 _ _ ho3
      have hpv4 := Rp.at s4.tups _ _ hpv
      generalize upd H3 eb (.tup [V.int st.st, V.int st.lt, V.int x.1, V.bl x.2.1]) = H4 at *
      obtain ⟨dx4, mx4, md4, fd4, ld4, mkv4, g1, g2, g3, g4, ⟨n5, kvs, g5, g6⟩, lev⟩ := hT4.ex
      have ka := rowq_keys g6
      refine ⟨_, rfl, _, rfl, a, _, dx4, _, _, rfl, g1, T.c_TakeOff, T.n_TakeOff_found, rfl, fd4, eb, kvs, lk (st.st, st.lt, x.1, x.2.1), rfl, g5, ka, rfl, key_ent ren, _, rfl, ?_⟩
      by_cases hin : (st.st, st.lt, x.1, x.2.1) ∈ keys F3'
      · have e1 : (valQ kvs (lk (st.st, st.lt, x.1, x.2.1))).isSome = true := by
          cases e : valQ kvs (lk (st.st, st.lt, x.1, x.2.1)) with
          | none => exact absurd hin ((valQ_none g6).mp e)
          | some v => rfl
        refine if_f (by rw [e1]; rfl) ?_
        have e2 : add1 F3' i st.st st.lt x = F3' := if_pos hin
        rw [e2] at tab4 ⊢
        exact ⟨_, _, _, _, _, _, rfl, s04, t4, hwj4, ho4, tab4, hT4⟩
      have e1 : valQ kvs (lk (st.st, st.lt, x.1, x.2.1)) = none := (valQ_none g6).mpr hin
      refine if_t (by rw [e1]; rfl) ?_
      have e2 : add1 F3' i st.st st.lt x = F3' ++ [((st.st, st.lt, x.1, x.2.1), i, x.2.2)] := if_neg hin
      rw [e2] at tab4 ⊢
      -- found
      refine ⟨_, rfl, _, rfl, (by show 2 ≤ sizeLine; decide), fun vt hvt => ?_⟩
      have s5 := same_upd (o := .tup [V.int i, pv]) hvt
      have rrow : Rp (upd H4 vt (.tup [V.int i, pv])) (rowD ((st.st, st.lt, x.1, x.2.1), i, x.2.2)) (.ref vt) := Rp.new hvt (.cons rfl (.one hpv4))
      refine ⟨_, rfl, a, _, dx4, _, _, rfl, s5 _ _ g1, T.c_TakeOff, T.n_TakeOff_found, rfl, _, rfl, fd4, eb, kvs, _, rfl, s5 _ _ g5, ka.tups s5.tups, rfl, (key_ent ren).tups s5.tups, e1, smallL (by rw [g6.1]; omega), ?_⟩
      have kp6 : Kps H4 (upd (upd H4 vt (.tup [V.int i, pv])) fd4 (QO P w fd4 (kvs ++ [(lk (st.st, st.lt, x.1, x.2.1), eb, V.ref vt)]))) := s5.kps.trans (kps_q (s5 _ _ g5))
      have hq6 : (upd (upd H4 vt (.tup [V.int i, pv])) fd4 (QO P w fd4 (kvs ++ [(lk (st.st, st.lt, x.1, x.2.1), eb, V.ref vt)]))) fd4 = some (QO P w fd4 (kvs ++ [(lk (st.st, st.lt, x.1, x.2.1), eb, V.ref vt)])) := upd_same
      have oth6 : ∀ c u, H4 c = some u → c ≠ fd4 → (upd (upd H4 vt (.tup [V.int i, pv])) fd4 (QO P w fd4 (kvs ++ [(lk (st.st, st.lt, x.1, x.2.1), eb, V.ref vt)]))) c = some u := fun c u e n => by rw [upd_ne n]; exact s5 _ _ e
      have rrow6 : Rp (upd (upd H4 vt (.tup [V.int i, pv])) fd4 (QO P w fd4 (kvs ++ [(lk (st.st, st.lt, x.1, x.2.1), eb, V.ref vt)]))) (rowD ((st.st, st.lt, x.1, x.2.1), i, x.2.2)) (.ref vt) := Rp.at (kps_q (s5 _ _ g5)).tups _ _ rrow
      have s06 : Same H0 (upd (upd H4 vt (.tup [V.int i, pv])) fd4 (QO P w fd4 (kvs ++ [(lk (st.st, st.lt, x.1, x.2.1), eb, V.ref vt)]))) := (s04.trans s5).mut n5.1
      generalize upd (upd H4 vt (.tup [V.int i, pv])) fd4 (QO P w fd4 (kvs ++ [(lk (st.st, st.lt, x.1, x.2.1), eb, V.ref vt)])) = H6 at *
      have hwj6 := oth6 _ _ hwj4 (fun z => n5.2 z.symm)
      have lev6 : LevAt (fun x => H0 x = none ∧ x ≠ wj) H6 ld4 F3' := lev.move kp6.tups (fun l z => ⟨lev.n, oth6 _ _ z fun y => by rw [y, g5] at z; cases z⟩) fun y l n z => ⟨n, oth6 _ _ z fun y => by rw [y, g5] at z; cases z⟩
      have row6 := (g6.imp fun _ _ z => z.at kp6.tups).snoc (d := ((st.st, st.lt, x.1, x.2.1), i, x.2.2)) (v := (lk (st.st, st.lt, x.1, x.2.1), eb, V.ref vt)) ⟨rfl, Rp.at kp6.tups _ _ ren, rrow6⟩
      obtain ⟨nld, lvs, l1, l2, l3, l4, l5, l6⟩ := id lev6
      -- leaving
      refine ⟨_, rfl, a, _, dx4, _, _, rfl, kp6.ins g1, T.c_TakeOff, T.n_TakeOff_leaving, rfl, ld4, rfl, .inr ⟨lvs, .inl l1⟩, _, rfl, 2, rfl, eb, _, rfl, SqT.of (kp6.tups _ _ hebt), (fun z => absurd z (cut2_not _ _ _ _)), fun _ kb hkb => ⟨Nat.zero_le _, fun nl hnl => ?_⟩⟩
      rw [cut2] at hnl ⊢
      have s67 := (same_upd (o := .tup [V.int st.st, V.int st.lt]) hkb).new (o := .lst []) hnl
      have hkb7 : (upd (upd H6 kb (.tup [V.int st.st, V.int st.lt])) nl (.lst [])) kb = some (.tup ((k2 st.st st.lt).map kV)) := same_upd hnl _ _ upd_same
      have hnl7 : (upd (upd H6 kb (.tup [V.int st.st, V.int st.lt])) nl (.lst [])) nl = some (.lst []) := upd_same
      have nl6 : H6 nl = none := (same_upd hkb).free hnl
      generalize upd (upd H6 kb (.tup [V.int st.st, V.int st.lt])) nl (.lst []) = H7 at *
      have kp7 := kp6.trans s67.kps
      have row7 := row6.imp fun _ _ z => z.at s67.tups
      have l4' : ∀ s a v, valV lvs (k2 s a) = some v → ∃ l ys, v = .ref l ∧ (H0 l = none ∧ l ≠ wj) ∧ H7 l = some (.lst ys) ∧ RpAll H7 ((leav F3' s a).map entD) ys := fun s a v e => let ⟨l, ys, e1, e2, e3, e4⟩ := l4 s a v e; ⟨l, ys, e1, e2, s67 _ _ e3, RpAll.at s67.tups _ _ e4⟩
      have ren7 := Rp.at kp7.tups _ _ ren
      -- what holds at the end
      have done : ∀ (H9 : Hp), Kps H7 H9 → Same H0 H9 → H9 wj = some (.lst ws) → H9 fd4 = some (QO P w fd4 (kvs ++ [(lk (st.st, st.lt, x.1, x.2.1), eb, V.ref vt)])) → LevAt (fun x => H0 x = none ∧ x ≠ wj) H9 ld4 (F3' ++ [((st.st, st.lt, x.1, x.2.1), i, x.2.2)]) →
          ∃ (x4 x5 x6 x7 x8 x9 : Option V), [some (V.ref a), some (V.int i), some (V.ref o), some (V.ref wj), y4, y5, some (V.int x.1), some (V.bl x.2.1), some pv, some (V.ref eb)] = [some (.ref a), some (.int i), some (.ref o), some (.ref wj), x4, x5, x6, x7, x8, x9] ∧ Same H0 H9 ∧ Tups H2 H9 ∧ H9 wj = some (.lst ws) ∧
          H9 o = some (.ins (He.ga K "Step") dxo [("state", .int st.st), ("letter", .int st.lt), ("goal", .int st.go), ("laid", .ref la), ("weight", .int 1)]) ∧ Tab M μ (F3' ++ [((st.st, st.lt, x.1, x.2.1), i, x.2.2)]) ∧ TkAt P w K (fun x => H0 x = none ∧ x ≠ wj) H9 a M mk (F3' ++ [((st.st, st.lt, x.1, x.2.1), i, x.2.2)]) := fun H9 k79 s09 hw9 hf9 lev9 => by
        have k49 := kp7.trans k79
        exact ⟨_, _, _, _, _, _, rfl, s09, t4.trans k49.tups, hw9, k49.ins ho4, tab4, ⟨dx4, mx4, md4, fd4, ld4, mkv4, k49.ins g1, g2.kps k49, k49 _ _ g3 trivial, g4, ⟨n5, _, hf9, row7.imp fun _ _ z => z.at k79.tups⟩, lev9⟩⟩
      have Fl3 : F3'.length ≤ 1000 := by omega
      refine ⟨kb, lvs, k2 st.st st.lt, s67 _ _ l1, rfl, hkb7, smallL (by omega), fun v hv => ?_, fun hv => ?_⟩
      · obtain ⟨l, ys, rfl, nl', hl7, hys⟩ := l4' _ _ _ hv
        have ysl : ys.length ≤ 1000 := by
          rw [hys.len, List.length_map]
          have h1 : (leav F3' st.st st.lt).length ≤ F3'.length := by
            have := List.length_filter_le (fun e : En => e.1 == st.st && e.2.1 == st.lt) (keys F3')
            unfold leav
            rw [show F3'.length = (keys F3').length by simp [keys]]
            exact this
          omega
        refine ⟨.inl ⟨rfl, _, SqL.of hl7⟩, _, rfl, l, _, _, rfl, rfl, hl7, smallL (by omega), ?_⟩
        have nlf : fd4 ≠ l := fun z => by
          have h9 := s67 _ _ hq6
          rw [z, hl7] at h9
          cases h9
        exact done _ (kps_lst hl7) ((s06.trans s67).mut nl'.1) (by rw [upd_ne (Ne.symm nl'.2)]; exact s67 _ _ hwj6) (by rw [upd_ne nlf]; exact s67 _ _ hq6)
          (LevAt.old (x := ((st.st, st.lt, x.1, x.2.1), i, x.2.2)) nld (s67 _ _ l1) l2 l3 l4' l5 l6 hv hl7 ren7)
      · have hld7 := s67 _ _ l1
        have nlnd : nl ≠ ld4 := fun z => by rw [z, hld7] at hnl7; cases hnl7
        have hnl8 : (upd H7 ld4 (.dT (putK lvs (k2 st.st st.lt) (V.ref nl)))) nl = some (.lst []) := by rw [upd_ne nlnd]; exact hnl7
        refine ⟨.inl ⟨rfl, _, SqL.of hnl8⟩, _, rfl, nl, _, _, rfl, rfl, hnl8, (by show 0 < sizeLine; decide), ?_⟩
        have nlw : nl ≠ wj := fun z => by rw [z, hwj6] at nl6; cases nl6
        have nlf : nl ≠ fd4 := fun z => by rw [z, hq6] at nl6; cases nl6
        have ldf : ld4 ≠ fd4 := fun z => by rw [z, hq6] at l1; cases l1
        have nl0 : H0 nl = none := s06.free nl6
        refine done _ ((kps_dT hld7).trans (kps_lst hnl8)) (((s06.trans s67).mut nld.1).mut nl0) (by rw [upd_ne (Ne.symm nlw), upd_ne (Ne.symm nld.2)]; exact s67 _ _ hwj6) (by rw [upd_ne (Ne.symm nlf), upd_ne (Ne.symm ldf)]; exact s67 _ _ hq6) ?_
        exact LevAt.neu (x := ((st.st, st.lt, x.1, x.2.1), i, x.2.2)) nld hld7 l2 l3 l4' l5 l6 hv ⟨nl0, nlw⟩ hnl7 (fun k z => by
          obtain ⟨s', a', rfl⟩ := l6 _ _ z
          obtain ⟨l', _, e1, _, e3, _⟩ := l4 _ _ _ z
          cases e1
          rw [nl6] at e3
          cases e3) ren7
    · rintro σ H3 ⟨y4, y5, y6, y7, y8, y9, rfl, s3, t3, hwj3, ho3, tab3, hT3⟩
      rw [wsl, List.take_length] at hT3
      have eu : useT M mk F i = addW i st.st st.lt W F := by
        unfold useT
        rw [hst]
        show addW i st.st st.lt (ways F st.go (mk i) st.la) F = _
        rw [hWW]
      refine k H3 s3 ?_
      rw [eu]
      exact hT3.n fun x u n e => n.1
end
end Pr
/-! What is taken off: the whole table. -/
namespace Pr
open PySem PySem.Spec PyProof.Rows L2 RT
open C8 (Cal Met Mak pe_c pe_mk pe_mt pe_mt0)
section
variable {P : Program} {w : World} {K : PySem.W.Frag} {mg : Str → Option Value} {base : Heap}
def sp_take (P : Program) (w : World) (K : PySem.W.Frag) : Sp := fun vs H Q _ => ∃ (x dx mx mt : Addr) (M : List Stp) (ms : List Nat) (mk μ : Nat → Bool) (S L : Nat) (H0 : Hp), vs = [.ref x, .ref mx, .ref mt] ∧ Same H0 H ∧ H0 x = none ∧ H x = some (.ins (He.ga K "TakeOff") dx []) ∧ McAt K H0 mx M ∧
  H0 mt = some (.tup (ms.map fun n : Nat => V.int (n : Int))) ∧ (∀ i, mk i = decide (i ∈ ms)) ∧ ms.length ≤ 10000 ∧ Mch M mk μ S L ∧ S ≤ 4 ∧ L ≤ 20 ∧ M.length ≤ 10000 ∧
  ∀ (F : List Fd) (H' : Hp), Same H0 H' → TkAt P w K (fun x => H0 x = none) H' x M mk F → Tab M μ F → Whole M mk F → Q .non H'
abbrev n_TakeOff___init__ : List Str := ["self", "machine", "marked", "index", "changed", "before"]
theorem sc_TakeOff___init__ : FnScope n_TakeOff___init__ ["self", "machine", "marked"] (defScope s_TakeOff___init__) := ⟨rfl, rfl, rfl, by decide +kernel, rfl, by decide +kernel, by decide +kernel⟩
theorem ok_take (T : Env K mg) (c_TakeOff_use : Met P w K mg base 2 (He.ga K "TakeOff") "use" (sp_use P w K) []) : Mak P w K mg base 3 "TakeOff" (He.ga K "TakeOff") (sp_take P w K) [] := by
  obtain ⟨fd, F⟩ := T.F_TakeOff___init__
  refine mak_by F T.k_TakeOff T.g_TakeOff (F.bindsN fun _ _ _ _ _ _ us hl => match us, hl with | [_, _, _], _ => rfl) .nil sc_TakeOff___init__ (fun vs H Q E h => ?_) (fun cdv A outer s H vs Q E hr h => ?_)
  · obtain ⟨x, dx, mx, mt, M, ms, mk, μ, S, L, H0, rfl, _⟩ := h
    rfl
  obtain ⟨x, dx, mx, mt, M, ms, mk, μ, S, L, H0, rfl, sm, hx0, hx, hm, hmt, hmk, ms1000, hc, hS, hL, hM, fin⟩ := h
  refine ⟨_, pss_cons (ps_fld (pv 0) (pv 1) rfl)
      (pss_cons (ps_fld (pv 0) pe_dnewK rfl)
      (pss_cons (ps_for PassesOwn.never rfl (pi_tup (pv 2)) (pg_name (i := 3) sc_TakeOff___init__.nd rfl (Or.inl rfl))
        (pss_one (ps_dput (hu_of hr) (pe_fld (pv 0) rfl) (pv 3) pe_bl rfl)))
      (pss_cons (ps_fld (pv 0) (pe_qnewP (P := P) (w := w) rfl rfl) rfl)
      (pss_cons (ps_fld (pv 0) pe_dnewT rfl)
      (pss_cons (ps_set (i := 4) sc_TakeOff___init__.nd rfl (Or.inl rfl) pe_bl)
      (pss_one (ps_while PassesOwn.never (pt_val (pv 4))
        (pss_cons (ps_set (i := 5) sc_TakeOff___init__.nd rfl (Or.inl rfl) (pe_callB (call_lenQP (P := P) (w := w) rfl rfl) (by rfl) T.f_len (by decide +kernel) (pa_cons (pe_fld (pv 0) rfl) pa_nil)))
        (pss_cons (ps_for PassesOwn.never rfl (pi_range1 rfl T.f_range (pa_cons (pe_callB call_len_seq (by rfl) T.f_len (by decide +kernel) (pa_cons (pe_fld (pv 1) rfl) pa_nil)) pa_nil)) (pg_name (i := 3) sc_TakeOff___init__.nd rfl (Or.inl rfl))
          (pss_one (ps_expr (pe_mt c_TakeOff_use hr (by omega) (pv 0) (pa_cons (pv 3) pa_nil)))))
        (pss_one (ps_set (i := 4) sc_TakeOff___init__.nd rfl (Or.inl rfl) (pe_cmpR op_gt (pe_callB (call_lenQP (P := P) (w := w) rfl rfl) (by rfl) T.f_len (by decide +kernel) (pa_cons (pe_fld (pv 0) rfl) pa_nil)) (pv 5) (nomark _))))))))))))), ?_⟩
  refine ⟨_, rfl, _, rfl, x, _, dx, _, rfl, hx, T.c_TakeOff, T.n_TakeOff_machine, (by show 0 < 1000; decide), ?_⟩
  have s1 := sm.mut (o := .ins (He.ga K "TakeOff") dx (putF "machine" (.ref mx) [])) hx0
  have hx1 : (upd H x (.ins (He.ga K "TakeOff") dx (putF "machine" (.ref mx) []))) x = some (.ins (He.ga K "TakeOff") dx (putF "machine" (.ref mx) [])) := upd_same
  generalize upd H x (.ins (He.ga K "TakeOff") dx (putF "machine" (.ref mx) [])) = H1 at *
  refine fun md hmd => ⟨_, rfl, x, _, dx, _, rfl, same_upd hmd _ _ hx1, T.c_TakeOff, T.n_TakeOff_marked, (by show 1 < 1000; decide), ?_⟩
  have md0 := s1.free hmd
  have nmx : md ≠ x := Ne.symm (ne_of_none hx1 hmd)
  have s2 := (s1.new (o := .dK []) hmd).mut (o := .ins (He.ga K "TakeOff") dx (putF "marked" (.ref md) (putF "machine" (.ref mx) []))) hx0
  have hx2 : (upd (upd H1 md (.dK [])) x (.ins (He.ga K "TakeOff") dx (putF "marked" (.ref md) (putF "machine" (.ref mx) [])))) x = some (.ins (He.ga K "TakeOff") dx (putF "marked" (.ref md) (putF "machine" (.ref mx) []))) := upd_same
  have hmd2 : (upd (upd H1 md (.dK [])) x (.ins (He.ga K "TakeOff") dx (putF "marked" (.ref md) (putF "machine" (.ref mx) [])))) md = some (.dK []) := by rw [upd_ne nmx]; exact upd_same
  generalize upd (upd H1 md (.dK [])) x (.ins (He.ga K "TakeOff") dx (putF "marked" (.ref md) (putF "machine" (.ref mx) []))) = H2 at *
  -- the marks
  refine ⟨_, rfl, mt, rfl, ⟨_, SqT.of (s2 _ _ hmt)⟩, for_it (walk_tup (K := K) (a := mt) (xs := ms.map fun n : Nat => V.int (n : Int))) (fun j σ H3 => ∃ (x3 x4 x5 : Option V) (kvs : List (Key × V)), σ = [some (.ref x), some (.ref mx), some (.ref mt), x3, x4, x5] ∧ Same H0 H3 ∧ H3 x = some (.ins (He.ga K "TakeOff") dx (putF "marked" (.ref md) (putF "machine" (.ref mx) []))) ∧ H3 md = some (.dK kvs) ∧ kvs.length ≤ j ∧
      ∀ i : Nat, (valV kvs (Sum.inl ((i : Nat) : Int))).isSome = decide (i ∈ ms.take j))
    ⟨_, _, _, [], rfl, s2, hx2, hmd2, Nat.le_refl _, fun i => rfl⟩ (fun j σ H3 _ ⟨_, _, _, _, _, z, _⟩ => SqT.of (z _ _ hmt)) ?_ ?_⟩
  · rintro j yv σ _ H3 hj ⟨x3, x4, x5, kvs, rfl, s3, hx3, hmd3, kl, kin⟩ ⟨rfl, hyj⟩
    rw [List.length_map] at hj
    rw [List.getElem?_map] at hyj
    obtain ⟨n, hn, rfl⟩ := Option.map_eq_some_iff.mp hyj
    refine ⟨_, rfl, x, _, dx, _, _, rfl, hx3, T.c_TakeOff, T.n_TakeOff_marked, rfl, _, rfl, md, _, rfl, DPut.k (k := Sum.inl ((n : Nat) : Int)) hmd3 (smallL (by omega)), ?_⟩
    refine ⟨_, _, _, _, rfl, s3.mut md0, by rw [upd_ne (Ne.symm nmx)]; exact hx3, upd_same, ?_, fun i => ?_⟩
    · have := length_putK kvs (Sum.inl ((n : Nat) : Int)) (V.bl true)
      omega
    · rw [valV_put, List.take_add_one, hn]
      by_cases c : i = n
      · subst c
        rw [if_pos rfl]
        simp
      · rw [if_neg (fun z => c (by injection z with z; omega)), kin i]
        simp [c]
  rintro σ H3 ⟨x3, x4, x5, kvs, rfl, s3, hx3, hmd3, kl, kin⟩
  rw [List.length_map, List.take_length] at kin
  rw [List.length_map] at kl
  -- found, leaving
  refine fun fd hfd => ⟨_, rfl, x, _, dx, _, rfl, same_upd hfd _ _ hx3, T.c_TakeOff, T.n_TakeOff_found, (by show 2 < 1000; decide), ?_⟩
  have fd0 := s3.free hfd
  have nfx : fd ≠ x := Ne.symm (ne_of_none hx3 hfd)
  have s4 := (s3.new (o := QO P w fd []) hfd).mut (o := .ins (He.ga K "TakeOff") dx (putF "found" (.ref fd) (putF "marked" (.ref md) (putF "machine" (.ref mx) [])))) hx0
  have hx4 : (upd (upd H3 fd (QO P w fd [])) x (.ins (He.ga K "TakeOff") dx (putF "found" (.ref fd) (putF "marked" (.ref md) (putF "machine" (.ref mx) []))))) x = some (.ins (He.ga K "TakeOff") dx (putF "found" (.ref fd) (putF "marked" (.ref md) (putF "machine" (.ref mx) [])))) := upd_same
  have hfd4 : (upd (upd H3 fd (QO P w fd [])) x (.ins (He.ga K "TakeOff") dx (putF "found" (.ref fd) (putF "marked" (.ref md) (putF "machine" (.ref mx) []))))) fd = some (QO P w fd []) := by rw [upd_ne nfx]; exact upd_same
  have hmd4 : (upd (upd H3 fd (QO P w fd [])) x (.ins (He.ga K "TakeOff") dx (putF "found" (.ref fd) (putF "marked" (.ref md) (putF "machine" (.ref mx) []))))) md = some (.dK kvs) := by rw [upd_ne nmx]; exact same_upd hfd _ _ hmd3
  generalize hH4 : upd (upd H3 fd (QO P w fd [])) x (.ins (He.ga K "TakeOff") dx (putF "found" (.ref fd) (putF "marked" (.ref md) (putF "machine" (.ref mx) [])))) = H4 at *
  show ∀ ld, H4 ld = none → _
  refine fun ld hld => ⟨_, rfl, x, _, dx, _, rfl, same_upd hld _ _ hx4, T.c_TakeOff, T.n_TakeOff_leaving, (by show 3 < 1000; decide), ?_⟩
  rw [show putF (Str.ofString "leaving") (V.ref ld) (putF (Str.ofString "found") (V.ref fd) (putF (Str.ofString "marked") (V.ref md) (putF (Str.ofString "machine") (V.ref mx) []))) = [(Str.ofString "machine", V.ref mx), (Str.ofString "marked", V.ref md), (Str.ofString "found", V.ref fd), (Str.ofString "leaving", V.ref ld)] from rfl]
  have ld0 := s4.free hld
  have nlx : ld ≠ x := Ne.symm (ne_of_none hx4 hld)
  have s5 := (s4.new (o := .dT []) hld).mut (o := .ins (He.ga K "TakeOff") dx [(Str.ofString "machine", V.ref mx), (Str.ofString "marked", V.ref md), (Str.ofString "found", V.ref fd), (Str.ofString "leaving", V.ref ld)]) hx0
  have tk5 : TkAt P w K (fun x => H0 x = none) (upd (upd H4 ld (.dT [])) x (.ins (He.ga K "TakeOff") dx [(Str.ofString "machine", V.ref mx), (Str.ofString "marked", V.ref md), (Str.ofString "found", V.ref fd), (Str.ofString "leaving", V.ref ld)])) x M mk [] := by
    refine ⟨dx, mx, md, fd, ld, kvs, upd_same, hm.same s5, by rw [upd_ne nmx]; exact same_upd hld _ _ hmd4, fun i => by rw [kin i, hmk i], ⟨fd0, [], by rw [upd_ne nfx]; exact same_upd hld _ _ hfd4, .nil⟩, ⟨ld0, [], by rw [upd_ne nlx]; exact upd_same, Nat.le_refl _, fun s a _ => rfl, fun s a v e => (by cases e), fun k k' v e => (by cases e), fun k v e => (by cases e)⟩⟩
  generalize upd (upd H4 ld (.dT [])) x (.ins (He.ga K "TakeOff") dx [(Str.ofString "machine", V.ref mx), (Str.ofString "marked", V.ref md), (Str.ofString "found", V.ref fd), (Str.ofString "leaving", V.ref ld)]) = H5 at *
  have bound : ∀ F, Tab M μ F → F.length ≤ 640 := fun F t => by
    have h1 := t.len hc
    have h2 : S * (L * (S * 2)) ≤ 4 * (20 * (4 * 2)) := Nat.mul_le_mul hS (Nat.mul_le_mul hL (by omega))
    omega
  -- the rounds
  refine ⟨fun m σ H6 => ∃ (F : List Fd) (b : Bool) (x3 x5 : Option V), m = (640 - F.length) * 2 + (if b = true then 1 else 0) ∧ σ = [some (.ref x), some (.ref mx), some (.ref mt), x3, some (.bl b), x5] ∧ Same H0 H6 ∧ TkAt P w K (fun x => H0 x = none) H6 x M mk F ∧ Tab M μ F ∧ (b = false → Whole M mk F), ⟨_, [], true, _, _, rfl, rfl, s5, tk5, Tab.nil, fun z => by cases z⟩, ?_⟩
  rintro m σ H6 ⟨F, b, x3, x5, rfl, rfl, s6, tk6, tab6, wh6⟩
  refine ⟨_, rfl, b, rfl, ?_⟩
  cases b with
  | false => exact if_f rfl (fin F H6 s6 tk6 tab6 (wh6 rfl))
  | true =>
    refine if_t rfl ⟨_, fun _ _ h => h, ?_⟩
    obtain ⟨dx6, mx6, md6, fd6, ld6, kv6, g1, ⟨dxm, t, S', L', xs, m1, m2, m3⟩, g3, g4, ⟨n5, fk6, g5, g6⟩, g7⟩ := tk6.ex
    refine ⟨_, rfl, x, _, dx6, _, _, rfl, g1, T.c_TakeOff, T.n_TakeOff_found, rfl, fd6, fk6, rfl, g5, rowq_keys g6, ?_⟩
    rw [g6.1]
    have hm6 := hm.same s6
    obtain ⟨dxm6, t6, S6, L6, xs6, q1, q2, q3⟩ := id hm6
    refine ⟨_, rfl, mx, _, dxm6, _, _, rfl, q1, T.c_Machine, T.n_Machine_steps, rfl, t6, _, rfl, .inr (SqT.of q2), _, rfl, by omega, by have := q3.1; omega, ?_⟩
    refine for_range (n := ((xs6.length : Nat) : Int).toNat) (fun i σ H7 => ∃ (x3 : Option V), σ = [some (.ref x), some (.ref mx), some (.ref mt), x3, some (.bl true), some (.int (F.length : Nat))] ∧ Same H0 H7 ∧ TkAt P w K (fun x => H0 x = none) H7 x M mk (passT M mk F i) ∧ Tab M μ (passT M mk F i))
      ⟨_, rfl, s6, tk6, tab6⟩ ?_ ?_
    · rintro i σ H7 hi ⟨x3, rfl, s7, tk7, tab7⟩
      rw [Int.toNat_natCast, q3.1] at hi
      obtain ⟨dx7, _, _, _, _, _, r1, _⟩ := tk7.ex
      refine ⟨_, rfl, x, dx7, _, rfl, r1, rfl, _, rfl, x, i, H0, M, mk, μ, S, L, passT M mk F i, (by rw [Int.zero_add]; rfl), s7, tk7, hc, tab7, hS, hL, hi, fun H8 s8 tk8 => ?_⟩
      refine ⟨_, rfl, s8, ?_, ?_⟩
      · rw [passT_succ]
        exact tk8
      · rw [passT_succ]
        exact tab7.use hc i
    · rintro σ H7 ⟨x3, rfl, s7, tk7, tab7⟩
      rw [Int.toNat_natCast, q3.1] at tk7 tab7
      obtain ⟨dx7, mx7, md7, fd7, ld7, kv7, r1, r2, r3, r4, ⟨n7, fk7, r5, r6⟩, r7⟩ := tk7.ex
      refine ⟨_, rfl, x, _, dx7, _, _, rfl, r1, T.c_TakeOff, T.n_TakeOff_found, rfl, fd7, fk7, rfl, r5, rowq_keys r6, _, rfl, _, _, rfl, rfl, ?_⟩
      rw [r6.1]
      obtain ⟨X, eX⟩ := passT_pre M mk F M.length
      have lenX : (passT M mk F M.length).length = F.length + X.length := by rw [eX, List.length_append]
      have b7 := bound _ tab7
      refine ⟨_, ?_, passT M mk F M.length, decide (((passT M mk F M.length).length : Int) > (F.length : Int)), _, _, rfl, rfl, s7, tk7, tab7, fun z => ?_⟩
      · by_cases c : X.length = 0
        · rw [decide_eq_false (by omega)]
          simp
          omega
        · rw [decide_eq_true (by omega)]
          simp
          omega
      · have hz : ¬ (((passT M mk F M.length).length : Int) > (F.length : Int)) := of_decide_eq_false z
        have hX : X = [] := List.eq_nil_of_length_eq_zero (by omega)
        rw [hX, List.append_nil] at eX
        have hl : (passT M mk F M.length).length = F.length := by rw [eX]
        rw [eX]
        intro i st hst ww hw
        exact pass_same M.length hl i (List.getElem?_eq_some_iff.mp hst).1 st hst ww hw
end
end Pr
/-! Heads and their moves. -/
namespace Pr
open PySem PySem.Spec PyProof.Rows L2 RT
open C8 (Cal Met Mak pe_c pe_mk pe_mt pe_mt0)
abbrev Hd := Nat × Nat
abbrev Move := Hd × Bool × Nat × Option En
def hdD (h : Hd) : PyData := .tuple [.int h.1, .int h.2]
def oeD : Option En → PyData
  | none => .none
  | some e => entD e
def movD (m : Move) : PyData := .tuple [hdD m.1, .bool m.2.1, .int m.2.2.1, oeD m.2.2.2]
def stM1 (i : Nat) (st : Stp) (b : Bool) : List (Hd × Move) := match st.la with
  | [] => []
  | c :: _ => [((st.st, st.lt), ((st.go, c), b, i, none))]
def stM2 (F : List Fd) (i : Nat) (st : Stp) (b : Bool) : List (Hd × Move) := match st.la with
  | [c, d] => (leav F st.go c).map fun e => ((st.st, st.lt), ((e.2.2.1, d), b || e.2.2.2, i, some e))
  | _ => []
def stMoves (F : List Fd) (i : Nat) (st : Stp) (b : Bool) : List (Hd × Move) := stM1 i st b ++ stM2 F i st b
def allMoves (F : List Fd) (M : List Stp) (mk : Nat → Bool) : List (Hd × Move) := (List.range M.length).flatMap fun i => match M[i]? with
  | some st => stMoves F i st (mk i)
  | none => []
def mvs (A : List (Hd × Move)) (h : Hd) : List Move := (A.filter fun x => x.1 == h).map (·.2)
theorem mvs_snoc (A : List (Hd × Move)) (x : Hd × Move) (h : Hd) : mvs (A ++ [x]) h = mvs A h ++ (if x.1 = h then [x.2] else []) := by
  unfold mvs
  rw [List.filter_append, List.map_append]
  congr 1
  simp only [List.filter_cons, List.filter_nil, beq_iff_eq]
  split <;> rfl
theorem mem_mvs {A : List (Hd × Move)} {h : Hd} {m : Move} : m ∈ mvs A h ↔ (h, m) ∈ A := by
  unfold mvs
  rw [List.mem_map]
  constructor
  · rintro ⟨x, h1, h2⟩
    obtain ⟨h3, h4⟩ := List.mem_filter.mp h1
    have h5 : x.1 = h := by simpa using h4
    have : x = (h, m) := Prod.ext h5 h2
    rw [← this]
    exact h3
  · exact fun z => ⟨(h, m), List.mem_filter.mpr ⟨z, by simp⟩, rfl⟩
theorem mvs_len (A : List (Hd × Move)) (h : Hd) : (mvs A h).length ≤ A.length := by
  unfold mvs
  rw [List.length_map]
  exact List.length_filter_le _ _
structure MvAt (N : Addr → Prop) (H : Hp) (d : Addr) (A : List (Hd × Move)) : Prop where
  n : N d
  ex : ∃ lvs : List (List Key × V), H d = some (.dT lvs) ∧ lvs.length ≤ A.length ∧ (∀ h : Hd, valV lvs (k2 h.1 h.2) = none → mvs A h = []) ∧
    (∀ (h : Hd) v, valV lvs (k2 h.1 h.2) = some v → ∃ l ys, v = .ref l ∧ N l ∧ H l = some (.lst ys) ∧ RpAll H ((mvs A h).map movD) ys) ∧
    (∀ k k' v, valV lvs k = some v → valV lvs k' = some v → k = k') ∧ ∀ k v, valV lvs k = some v → ∃ s a, k = k2 s a
theorem MvAt.move {N N' : Addr → Prop} {H H' : Hp} {d : Addr} {A : List (Hd × Move)} (h : MvAt N H d A) (t : Tups H H') (hd : ∀ l, H d = some (.dT l) → N' d ∧ H' d = some (.dT l)) (hl : ∀ x l, N x → H x = some (.lst l) → N' x ∧ H' x = some (.lst l)) : MvAt N' H' d A := by
  obtain ⟨lvs, h1, h2, h3, h4, h5⟩ := h.ex
  obtain ⟨n', h1'⟩ := hd _ h1
  exact ⟨n', lvs, h1', h2, h3, fun h v e => let ⟨l, ys, e1, e2, e3, e4⟩ := h4 h v e; ⟨l, ys, e1, (hl l ys e2 e3).1, (hl l ys e2 e3).2, RpAll.at t _ _ e4⟩, h5⟩
section
variable {N : Addr → Prop} {H : Hp} {d : Addr} {A : List (Hd × Move)} {x : Hd × Move} {lvs : List (List Key × V)} {l nl : Addr} {mv : V} {ys : List V}
theorem MvAt.old (n : N d) (h1 : H d = some (.dT lvs)) (h2 : lvs.length ≤ A.length) (h3 : ∀ h : Hd, valV lvs (k2 h.1 h.2) = none → mvs A h = [])
    (h4 : ∀ (h : Hd) v, valV lvs (k2 h.1 h.2) = some v → ∃ l ys, v = .ref l ∧ N l ∧ H l = some (.lst ys) ∧ RpAll H ((mvs A h).map movD) ys) (h5 : ∀ k k' v, valV lvs k = some v → valV lvs k' = some v → k = k') (h6 : ∀ k v, valV lvs k = some v → ∃ s a, k = k2 s a)
    (hl : valV lvs (k2 x.1.1 x.1.2) = some (.ref l)) (hys : H l = some (.lst ys)) (he : Rp H (movD x.2) mv) : MvAt N (upd H l (.lst (ys ++ [mv]))) d (A ++ [x]) := by
  have tp : Tups H (upd H l (.lst (ys ++ [mv]))) := tups_lst hys
  refine ⟨n, lvs, by rw [upd_ne (fun z => by rw [z, hys] at h1; cases h1)]; exact h1, by rw [List.length_append]; omega, fun h e => ?_, fun h v e => ?_, h5, h6⟩
  · rw [mvs_snoc, h3 h e]
    have : ¬ x.1 = h := fun z => by
      rw [← z, hl] at e
      cases e
    rw [if_neg this]
    rfl
  · obtain ⟨l', ys', rfl, n', hh, r⟩ := h4 h v e
    by_cases c : x.1 = h
    · subst c
      rw [hl] at e
      cases e
      rw [hys] at hh
      cases hh
      refine ⟨l, ys ++ [mv], rfl, n', upd_same, ?_⟩
      rw [mvs_snoc, if_pos rfl, List.map_append]
      exact (RpAll.at tp _ _ r).snoc (Rp.at tp _ _ he)
    · have nl : l' ≠ l := fun z => by
        rw [z] at e
        have := k2_inj (h5 _ _ _ hl e)
        exact c (Prod.ext this.1 this.2)
      refine ⟨l', ys', rfl, n', by rw [upd_ne nl]; exact hh, ?_⟩
      rw [mvs_snoc, if_neg c, List.append_nil]
      exact RpAll.at tp _ _ r
theorem MvAt.neu (n : N d) (h1 : H d = some (.dT lvs)) (h2 : lvs.length ≤ A.length) (h3 : ∀ h : Hd, valV lvs (k2 h.1 h.2) = none → mvs A h = [])
    (h4 : ∀ (h : Hd) v, valV lvs (k2 h.1 h.2) = some v → ∃ l ys, v = .ref l ∧ N l ∧ H l = some (.lst ys) ∧ RpAll H ((mvs A h).map movD) ys) (h5 : ∀ k k' v, valV lvs k = some v → valV lvs k' = some v → k = k') (h6 : ∀ k v, valV lvs k = some v → ∃ s a, k = k2 s a)
    (hl : valV lvs (k2 x.1.1 x.1.2) = none) (hn : N nl) (hnl : H nl = some (.lst [])) (hno : ∀ k, valV lvs k ≠ some (.ref nl)) (he : Rp H (movD x.2) mv) :
    MvAt N (upd (upd H d (.dT (putK lvs (k2 x.1.1 x.1.2) (.ref nl)))) nl (.lst [mv])) d (A ++ [x]) := by
  have ndn : d ≠ nl := fun z => by rw [z, hnl] at h1; cases h1
  have t1 : Tups H (upd H d (.dT (putK lvs (k2 x.1.1 x.1.2) (.ref nl)))) := fun c xs e => by rw [upd_ne (fun z => by rw [z, h1] at e; cases e)]; exact e
  have hnl1 : (upd H d (.dT (putK lvs (k2 x.1.1 x.1.2) (.ref nl)))) nl = some (.lst []) := by rw [upd_ne (Ne.symm ndn)]; exact hnl
  have tp := t1.trans (tups_lst (o := .lst [mv]) hnl1)
  refine ⟨n, putK lvs (k2 x.1.1 x.1.2) (.ref nl), by rw [upd_ne ndn]; exact upd_same, by rw [List.length_append]; have := length_putK lvs (k2 x.1.1 x.1.2) (V.ref nl); simp; omega, fun h e => ?_, fun h v e => ?_, fun k k' v e e' => ?_, fun k v e => ?_⟩
  · rw [valV_put] at e
    by_cases c : k2 h.1 h.2 = k2 x.1.1 x.1.2
    · rw [if_pos c] at e
      cases e
    · rw [if_neg c] at e
      rw [mvs_snoc, h3 h e, if_neg (fun z => c (by rw [z]))]
      rfl
  · rw [valV_put] at e
    by_cases c : k2 h.1 h.2 = k2 x.1.1 x.1.2
    · rw [if_pos c] at e
      cases e
      have hx : x.1 = h := Prod.ext (k2_inj c).1.symm (k2_inj c).2.symm
      refine ⟨nl, [mv], rfl, hn, upd_same, ?_⟩
      rw [mvs_snoc, h3 h (by rw [← hx]; exact hl), if_pos hx]
      exact .one (Rp.at tp _ _ he)
    · rw [if_neg c] at e
      obtain ⟨l', ys', rfl, n', hh, r⟩ := h4 h v e
      have nn : l' ≠ nl := fun z => hno _ (by rw [← z]; exact e)
      have nd : l' ≠ d := fun z => by rw [z, h1] at hh; cases hh
      refine ⟨l', ys', rfl, n', by rw [upd_ne nn, upd_ne nd]; exact hh, ?_⟩
      rw [mvs_snoc, if_neg (fun z => c (by rw [z])), List.append_nil]
      exact RpAll.at tp _ _ r
  · rw [valV_put] at e e'
    by_cases c : k = k2 x.1.1 x.1.2
    · by_cases c' : k' = k2 x.1.1 x.1.2
      · rw [c, c']
      · rw [if_pos c] at e
        rw [if_neg c'] at e'
        cases e
        exact absurd e' (hno _)
    · by_cases c' : k' = k2 x.1.1 x.1.2
      · rw [if_pos c'] at e'
        rw [if_neg c] at e
        cases e'
        exact absurd e (hno _)
      · rw [if_neg c] at e
        rw [if_neg c'] at e'
        exact h5 _ _ _ e e'
  · rw [valV_put] at e
    by_cases c : k = k2 x.1.1 x.1.2
    · exact ⟨_, _, c⟩
    · rw [if_neg c] at e
      exact h6 _ _ e
end
def HdAt (K : PySem.W.Frag) (N : Addr → Prop) (H : Hp) (a : Addr) (A : List (Hd × Move)) : Prop := ∃ dx md : Addr, H a = some (.ins (He.ga K "Heads") dx [("moves", .ref md)]) ∧ MvAt N H md A
theorem HdAt.same {K : PySem.W.Frag} {N : Addr → Prop} {H H' : Hp} {a : Addr} {A : List (Hd × Move)} (h : HdAt K N H a A) (e : Same H H') : HdAt K N H' a A :=
  let ⟨dx, md, h1, h2⟩ := h; ⟨dx, md, e _ _ h1, h2.move e.tups (fun l z => ⟨h2.n, e _ _ z⟩) fun x l n z => ⟨n, e _ _ z⟩⟩
theorem HdAt.n {K : PySem.W.Frag} {N N' : Addr → Prop} {H : Hp} {a : Addr} {A : List (Hd × Move)} (h : HdAt K N H a A) (f : ∀ x u, N x → H x = some u → N' x) : HdAt K N' H a A :=
  let ⟨dx, md, h1, h2⟩ := h; ⟨dx, md, h1, h2.move (Tups.refl H) (fun l z => ⟨f _ _ h2.n z, z⟩) fun x l n z => ⟨f _ _ n z, z⟩⟩
section
variable {P : Program} {w : World} {K : PySem.W.Frag} {mg : Str → Option Value} {base : Heap}
def sp_put (K : PySem.W.Frag) : Sp := fun vs H Q _ => ∃ (a o : Addr) (mv : V) (st : Stp) (m : Move) (A : List (Hd × Move)) (H0 : Hp), vs = [.ref a, .ref o, mv] ∧ Same H0 H ∧ HdAt K (fun x => H0 x = none) H a A ∧ StV K H st (.ref o) ∧ Rp H (movD m) mv ∧ A.length ≤ 50000 ∧
  ∀ H', Same H0 H' → Kps H H' → HdAt K (fun x => H0 x = none) H' a (A ++ [((st.st, st.lt), m)]) → Q .non H'
abbrev n_Heads_put : List Str := ["self", "step", "move"]
theorem sc_Heads_put : FnScope n_Heads_put ["self", "step", "move"] (defScope s_Heads_put) := ⟨rfl, rfl, rfl, by decide +kernel, rfl, by decide +kernel, by decide +kernel⟩
theorem ok_put (T : Env K mg) : Met P w K mg base 1 (He.ga K "Heads") "put" (sp_put K) [] := by
  obtain ⟨fd, F⟩ := T.F_Heads_put
  refine met_by F T.c_Heads T.m_Heads_put (F.bindsN fun _ _ _ _ _ _ us hl => match us, hl with | [_, _, _], _ => rfl) sc_Heads_put (fun vs H Q E h => ?_) (fun cdv A outer s H vs Q E hr h => ?_)
  · obtain ⟨a, o, mv, st, m, A, H0, rfl, _⟩ := h
    rfl
  obtain ⟨a, o, mv, st, m, A, H0, rfl, sm, ⟨dx, md, g1, mva⟩, ⟨o', dxo, la, eo, ho, hla⟩, hmv, hA, k⟩ := h
  cases eo
  obtain ⟨nd, lvs, l1, l2, l3, l4, l5, l6⟩ := id mva
  refine ⟨_, pss_one (ps_expr (pe_bm PySem.F.plainAttrs_list PySem.F.slot_list_append PySem.F.type_list_append mt_append (pe_tsetd (hu_of hr) (pe_fld (pv 0) rfl) (pe_tup (pa_cons (pe_fld (pv 1) rfl) (pa_cons (pe_fld (pv 1) rfl) pa_nil))) (pe_lst pa_nil) ⟨rfl, rfl, rfl, rfl⟩) (pa_cons (pv 2) pa_nil))), ?_⟩
  refine ⟨_, rfl, a, _, dx, _, _, rfl, g1, T.c_Heads, T.n_Heads_moves, rfl, md, rfl, .inr ⟨lvs, .inl l1⟩, _, rfl, o, _, dxo, _, _, rfl, ho, T.c_Step, T.n_Step_state, rfl, _, rfl, o, _, dxo, _, _, rfl, ho, T.c_Step, T.n_Step_letter, rfl, (by show 2 ≤ sizeLine; decide), fun kb hkb => ⟨Nat.zero_le _, fun nl hnl => ?_⟩⟩
  have s67 := (same_upd (o := .tup [V.int st.st, V.int st.lt]) hkb).new (o := .lst []) hnl
  have hkb7 : (upd (upd H kb (.tup [V.int st.st, V.int st.lt])) nl (.lst [])) kb = some (.tup ((k2 st.st st.lt).map kV)) := same_upd hnl _ _ upd_same
  have hnl7 : (upd (upd H kb (.tup [V.int st.st, V.int st.lt])) nl (.lst [])) nl = some (.lst []) := upd_same
  have nl6 : H nl = none := (same_upd hkb).free hnl
  generalize upd (upd H kb (.tup [V.int st.st, V.int st.lt])) nl (.lst []) = H7 at *
  have l4' : ∀ (h : Hd) v, valV lvs (k2 h.1 h.2) = some v → ∃ l ys, v = .ref l ∧ H0 l = none ∧ H7 l = some (.lst ys) ∧ RpAll H7 ((mvs A h).map movD) ys := fun h v e => let ⟨l, ys, e1, e2, e3, e4⟩ := l4 h v e; ⟨l, ys, e1, e2, s67 _ _ e3, RpAll.at s67.tups _ _ e4⟩
  have hmv7 := Rp.at s67.tups _ _ hmv
  have nd0 : H0 md = none := nd
  refine ⟨kb, lvs, k2 st.st st.lt, s67 _ _ l1, rfl, hkb7, smallL (by omega), fun v hv => ?_, fun hv => ?_⟩
  · obtain ⟨l, ys, rfl, nl', hl7, hys⟩ := l4' (st.st, st.lt) _ hv
    have ysl : ys.length ≤ 50000 := by
      rw [hys.len, List.length_map]
      exact Nat.le_trans (mvs_len A _) hA
    refine ⟨.inl ⟨rfl, _, SqL.of hl7⟩, _, rfl, l, _, _, rfl, rfl, hl7, smallL (by omega), ?_⟩
    exact k _ ((sm.trans s67).mut nl') (s67.kps.trans (kps_lst hl7)) ⟨dx, md, (kps_lst hl7).ins (s67 _ _ g1), MvAt.old (x := ((st.st, st.lt), m)) nd (s67 _ _ l1) l2 l3 l4' l5 l6 hv hl7 hmv7⟩
  · have hld7 := s67 _ _ l1
    have nlnd : nl ≠ md := fun z => by rw [z, hld7] at hnl7; cases hnl7
    have hnl8 : (upd H7 md (.dT (putK lvs (k2 st.st st.lt) (V.ref nl)))) nl = some (.lst []) := by rw [upd_ne nlnd]; exact hnl7
    refine ⟨.inl ⟨rfl, _, SqL.of hnl8⟩, _, rfl, nl, _, _, rfl, rfl, hnl8, (by show 0 < sizeLine; decide), ?_⟩
    have nl0 : H0 nl = none := sm.free nl6
    have kp := (kps_dT (o := .dT (putK lvs (k2 st.st st.lt) (V.ref nl))) hld7).trans (kps_lst (o := .lst [mv]) hnl8)
    refine k _ (((sm.trans s67).mut nd0).mut nl0) (s67.kps.trans kp) ⟨dx, md, kp.ins (s67 _ _ g1), ?_⟩
    exact MvAt.neu (x := ((st.st, st.lt), m)) nd hld7 l2 l3 l4' l5 l6 hv nl0 hnl7 (fun k z => by
      obtain ⟨s', a', rfl⟩ := l6 _ _ z
      obtain ⟨l', _, e1, _, e3, _⟩ := l4 (s', a') _ z
      cases e1
      rw [nl6] at e3
      cases e3) hmv7
def sp_mfrom (K : PySem.W.Frag) : Sp := fun vs H Q _ => ∃ (a : Addr) (hv : V) (h : Hd) (A : List (Hd × Move)) (N : Addr → Prop), vs = [.ref a, hv] ∧ HdAt K N H a A ∧ Rp H (hdD h) hv ∧
  ∀ (l : Addr) (ys : List V) (H' : Hp), Same H H' → (N l ∨ (H l = none ∧ ys = [])) → H' l = some (.lst ys) → RpAll H' ((mvs A h).map movD) ys → Q (.ref l) H'
theorem hd_at {H : Hp} {h : Hd} {v : V} (r : Rp H (hdD h) v) : ∃ b, v = .ref b ∧ H b = some (.tup ((k2 h.1 h.2).map kV)) := by
  obtain ⟨b, _, rfl, hb, _, _, rfl, rfl, _, _, rfl, rfl, rfl⟩ := r
  exact ⟨b, rfl, hb⟩
abbrev n_Heads_moves_from : List Str := ["self", "head"]
theorem sc_Heads_moves_from : FnScope n_Heads_moves_from ["self", "head"] (defScope s_Heads_moves_from) := ⟨rfl, rfl, rfl, by decide +kernel, rfl, by decide +kernel, by decide +kernel⟩
theorem ok_mfrom (T : Env K mg) : Met P w K mg base 1 (He.ga K "Heads") "moves_from" (sp_mfrom K) [] := by
  obtain ⟨fd, F⟩ := T.F_Heads_moves_from
  refine met_by F T.c_Heads T.m_Heads_moves_from (F.bindsN fun _ _ _ _ _ _ us hl => match us, hl with | [_, _], _ => rfl) sc_Heads_moves_from (fun vs H Q E h => ?_) (fun cdv A outer s H vs Q E hr h => ?_)
  · obtain ⟨a, hv, h, A, N, rfl, _⟩ := h
    rfl
  obtain ⟨a, hv, hd, A, N, rfl, ⟨dx, md, g1, nd, lvs, l1, l2, l3, l4, l5⟩, rh, k⟩ := h
  obtain ⟨hb, rfl, hhb⟩ := hd_at rh
  refine ⟨_, pss_one (ps_ret (pe_dget2 (hu_of hr) (pe_fld (pv 0) rfl) (pv 1) (pe_lst pa_nil) ⟨rfl, rfl, rfl, rfl⟩)), ?_⟩
  refine ⟨_, rfl, a, _, dx, _, _, rfl, g1, T.c_Heads, T.n_Heads_moves, rfl, md, rfl, .inr ⟨lvs, .inl l1⟩, _, rfl, Nat.zero_le _, fun nl hnl => ?_⟩
  have s1 := same_upd (o := .lst []) hnl
  refine ⟨_, DGet.t (k := k2 hd.1 hd.2) (s1 _ _ l1) (s1 _ _ hhb), ?_⟩
  cases e : valV lvs (k2 hd.1 hd.2) with
  | none =>
    refine k nl [] _ s1 (.inr ⟨hnl, rfl⟩) upd_same ?_
    rw [l3 hd e]
    rfl
  | some v =>
    obtain ⟨l, ys, rfl, e2, e3, e4⟩ := l4 hd v e
    exact k l ys _ s1 (.inl e2) (s1 _ _ e3) (RpAll.at s1.tups _ _ e4)
end
end Pr
/-! Heads: all moves. -/
namespace Pr
open PySem PySem.Spec PyProof.Rows L2 RT
open C8 (Cal Met Mak pe_c pe_mk pe_mt pe_mt0)
section
variable {P : Program} {w : World} {K : PySem.W.Frag} {mg : Str → Option Value} {base : Heap}
theorem stMoves_len {M : List Stp} {mk μ S L F} (c : Mch M mk μ S L) (t : Tab M μ F) (hS : S ≤ 4) (i : Nat) (st : Stp) (b : Bool) : (stMoves F i st b).length ≤ 9 := by
  unfold stMoves
  rw [List.length_append]
  have h1 : (stM1 i st b).length ≤ 1 := by
    unfold stM1
    split <;> simp
  have h2 : (stM2 F i st b).length ≤ 8 := by
    unfold stM2
    split
    · rename_i c' d' _
      rw [List.length_map]
      have := leav_len c t st.go c'
      omega
    · simp
  omega
def sp_heads (P : Program) (w : World) (K : PySem.W.Frag) : Sp := fun vs H Q _ => ∃ (x dx mx tk : Addr) (M : List Stp) (mk μ : Nat → Bool) (S L : Nat) (F : List Fd) (H0 : Hp), vs = [.ref x, .ref mx, .ref tk] ∧ Same H0 H ∧ H0 x = none ∧ H x = some (.ins (He.ga K "Heads") dx []) ∧ McAt K H0 mx M ∧ TkAt P w K (fun _ => True) H0 tk M mk F ∧
  Mch M mk μ S L ∧ Tab M μ F ∧ S ≤ 4 ∧ M.length ≤ 1000 ∧ ∀ H', Same H0 H' → HdAt K (fun x => H0 x = none) H' x (allMoves F M mk) → Q .non H'
abbrev n_Heads___init__ : List Str := ["self", "machine", "table", "index", "step", "marked", "entry"]
theorem sc_Heads___init__ : FnScope n_Heads___init__ ["self", "machine", "table"] (defScope s_Heads___init__) := ⟨rfl, rfl, rfl, by decide +kernel, rfl, by decide +kernel, by decide +kernel⟩
theorem ok_heads (T : Env K mg) (c_Heads_put : Met P w K mg base 1 (He.ga K "Heads") "put" (sp_put K) []) (c_TakeOff_entries : Met P w K mg base 1 (He.ga K "TakeOff") "entries" (sp_ents P w K) []) : Mak P w K mg base 2 "Heads" (He.ga K "Heads") (sp_heads P w K) [] := by
  obtain ⟨fd, F⟩ := T.F_Heads___init__
  refine mak_by F T.k_Heads T.g_Heads (F.bindsN fun _ _ _ _ _ _ us hl => match us, hl with | [_, _, _], _ => rfl) .nil sc_Heads___init__ (fun vs H Q E h => ?_) (fun cdv A outer s H vs Q E hr h => ?_)
  · obtain ⟨x, dx, mx, tk, M, mk, μ, S, L, F, H0, rfl, _⟩ := h
    rfl
  obtain ⟨x, dx, mx, tk, M, mk, μ, S, L, F, H0, rfl, sm, hx0, hx, hm, hT, hc, tab, hS, hM, fin⟩ := h
  obtain ⟨dxm, t, S', L', xs, m1, m2, m3⟩ := id hm
  obtain ⟨dxt, mx2, mdt, fd, ld, mkv, g1, _, g3, g4, _, _⟩ := hT.ex
  refine ⟨_, pss_cons (ps_fld (pv 0) pe_dnewT rfl)
      (pss_one (ps_for PassesOwn.never rfl (pi_enumT (by rfl) T.f_enumerate (pa_cons (pe_fld (pv 1) rfl) pa_nil)) (pg_tup (by rfl) (pgs_cons (pg_name (i := 3) sc_Heads___init__.nd rfl (Or.inl rfl)) (pgs_cons (pg_name (i := 4) sc_Heads___init__.nd rfl (Or.inl rfl)) pgs_nil)))
        (pss_cons (ps_set (i := 5) sc_Heads___init__.nd rfl (Or.inl rfl) (pe_cmp (pc_din (hu_of hr) (pv 3) (pe_fld (pv 2) rfl)) rfl))
        (C8.pss_cut (ps_if (pt_cmpR op_gt (pe_callB call_len_seq (by rfl) T.f_len (by decide +kernel) (pa_cons (pe_fld (pv 4) rfl) pa_nil)) pe_int (nomark _))
          (pss_one (ps_expr (pe_mt c_Heads_put hr (by omega) (pv 0) (pa_cons (pv 4) (pa_cons (pe_tup (pa_cons (pe_tup (pa_cons (pe_fld (pv 4) rfl) (pa_cons (pe_ix ix_tup (pe_fld (pv 4) rfl) pe_int (fun _ _ => rfl)) pa_nil))) (pa_cons (pv 5) (pa_cons (pv 3) (pa_cons pe_non pa_nil))))) pa_nil)))))
          pss_nil)
        (pss_one (ps_if (pt_cmpR op_eq (pe_callB call_len_seq (by rfl) T.f_len (by decide +kernel) (pa_cons (pe_fld (pv 4) rfl) pa_nil)) pe_int (nomark _))
          (pss_one (ps_for PassesOwn.never rfl (pi_list (pe_mt c_TakeOff_entries hr (by omega) (pv 2) (pa_cons (pe_fld (pv 4) rfl) (pa_cons (pe_ix ix_tup (pe_fld (pv 4) rfl) pe_int (fun _ _ => rfl)) pa_nil)))) (pg_name (i := 6) sc_Heads___init__.nd rfl (Or.inl rfl))
            (pss_one (ps_expr (pe_mt c_Heads_put hr (by omega) (pv 0) (pa_cons (pv 4) (pa_cons (pe_tup (pa_cons (pe_tup (pa_cons (pe_ix ix_tup (pv 6) pe_int (fun _ _ => rfl)) (pa_cons (pe_ix ix_tup (pe_fld (pv 4) rfl) pe_int (fun _ _ => rfl)) pa_nil))) (pa_cons (pe_or (pv 5) (pe_one (pe_ix ix_tup (pv 6) pe_int (fun _ _ => rfl)))) (pa_cons (pv 3) (pa_cons (pv 6) pa_nil))))) pa_nil)))))))
          pss_nil)))))), ?_⟩
  refine fun md hmd => ⟨_, rfl, x, _, dx, _, rfl, same_upd hmd _ _ hx, T.c_Heads, T.n_Heads_moves, (by show 0 < 1000; decide), ?_⟩
  have md0 := sm.free hmd
  have nmx : md ≠ x := Ne.symm (ne_of_none hx hmd)
  have s1 := (sm.new (o := .dT []) hmd).mut (o := .ins (He.ga K "Heads") dx (putF "moves" (.ref md) [])) hx0
  have hd1 : HdAt K (fun x => H0 x = none) (upd (upd H md (.dT [])) x (.ins (He.ga K "Heads") dx (putF "moves" (.ref md) []))) x [] := ⟨dx, md, upd_same, md0, [], by rw [upd_ne nmx]; exact upd_same, Nat.le_refl _, fun h _ => rfl, fun h v e => (by cases e), fun k k' v e => (by cases e), fun k v e => (by cases e)⟩
  generalize upd (upd H md (.dT [])) x (.ins (He.ga K "Heads") dx (putF "moves" (.ref md) [])) = H1 at *
  have xl := m3.1
  have alen : ∀ i, i ≤ M.length → ((List.range i).flatMap fun i => match M[i]? with
      | some st => stMoves F i st (mk i)
      | none => []).length ≤ 9000 := fun i hi => by
    have h1 := flat_len (fun i => match M[i]? with
      | some st => stMoves F i st (mk i)
      | none => []) 9 i fun i => by
      cases M[i]? with
      | none => simp
      | some st => exact stMoves_len hc tab hS i st (mk i)
    omega
  refine ⟨_, rfl, mx, _, dxm, _, _, rfl, s1 _ _ m1, T.c_Machine, T.n_Machine_steps, rfl, t, xs, rfl, SqT.of (s1 _ _ m2), ?_⟩
  refine for_it (walk_enumT (K := K) (a := t) (xs := xs)) (fun i σ H2 => ∃ (x3 x4 x5 x6 : Option V), σ = [some (.ref x), some (.ref mx), some (.ref tk), x3, x4, x5, x6] ∧ Same H0 H2 ∧ HdAt K (fun x => H0 x = none) H2 x ((List.range i).flatMap fun i => match M[i]? with
      | some st => stMoves F i st (mk i)
      | none => []))
    ⟨_, _, _, _, rfl, s1, hd1⟩ (fun i σ H2 _ ⟨_, _, _, _, _, z, _⟩ => SqT.of (z _ _ m2)) ?_ ?_
  · rintro i yv σ H2 _ hi ⟨x3, x4, x5, x6, rfl, s2, hd2⟩ ⟨U, _, v, rfl, hU, rfl, e1, e2⟩
    cases e1
    obtain ⟨st, hst, o, dxo, la, rfl, ho, hla⟩ := m3.2 i v e2
    have two := (hc.st st (List.mem_of_getElem? hst)).2.2.2.1
    have A9 := alen i (by omega)
    have esucc : ((List.range (i + 1)).flatMap fun i => match M[i]? with
      | some st => stMoves F i st (mk i)
      | none => []) = ((List.range i).flatMap fun i => match M[i]? with
      | some st => stMoves F i st (mk i)
      | none => []) ++ stMoves F i st (mk i) := by
      rw [flat_succ, hst]
    rw [esucc]
    generalize ((List.range i).flatMap fun i => match M[i]? with
      | some st => stMoves F i st (mk i)
      | none => []) = A0 at *
    have su := same_upd (o := .tup [V.int (i : Nat), V.ref o]) hU
    have s3 := s2.trans su
    have hU3 : (upd H2 U (.tup [V.int (i : Nat), V.ref o])) U = some (.tup [V.int (i : Nat), V.ref o]) := upd_same
    have hd3 := hd2.same su
    generalize upd H2 U (.tup [V.int (i : Nat), V.ref o]) = H3 at *
    refine ⟨U, _, rfl, SqT.of hU3, rfl, _, _, rfl, _, _, rfl, rfl, ?_⟩
    refine ⟨_, rfl, _, rfl, tk, _, dxt, _, _, rfl, s3 _ _ g1, T.c_TakeOff, T.n_TakeOff_marked, rfl, mdt, _, rfl, DGet.k (k := Sum.inl ((i : Nat) : Int)) (s3 _ _ g3), ?_⟩
    rw [g4 i]
    have stv : ∀ {H' : Hp}, Same H0 H' → StV K H' st (.ref o) := fun s => ⟨o, dxo, la, rfl, s _ _ ho, s _ _ hla⟩
    have lal : (st.la.map fun n : Nat => V.int (n : Int)).length = st.la.length := List.length_map ..
    -- the first letter
    refine ⟨fun σ' H' => σ' = [some (.ref x), some (.ref mx), some (.ref tk), some (.int (i : Nat)), some (.ref o), some (.bl (mk i)), x6] ∧ Same H0 H' ∧ HdAt K (fun x => H0 x = none) H' x (A0 ++ stM1 i st (mk i)), ?_, ?_⟩
    · refine ⟨_, rfl, o, _, dxo, _, _, rfl, s3 _ _ ho, T.c_Step, T.n_Step_laid, rfl, la, _, rfl, .inr (SqT.of (s3 _ _ hla)), _, _, rfl, rfl, _, rfl, ?_⟩
      rw [lal]
      cases hL : st.la with
      | nil =>
        have e1 : stM1 i st (mk i) = [] := by unfold stM1; rw [hL]
        exact if_f rfl ⟨rfl, s3, by rw [e1, List.append_nil]; exact hd3⟩
      | cons c r =>
        have e1 : stM1 i st (mk i) = [((st.st, st.lt), ((st.go, c), mk i, i, none))] := by unfold stM1; rw [hL]
        rw [e1]
        refine if_t (decide_eq_true (by rw [List.length_cons]; omega)) ?_
        obtain ⟨dxh, mdh, hx3, _⟩ := id hd3
        have hla' : H0 la = some (.tup (V.int c :: r.map fun n : Nat => V.int (n : Int))) := by rw [hla, hL]; rfl
        refine ⟨_, rfl, x, dxh, _, rfl, hx3, rfl, _, rfl, _, rfl, o, _, dxo, _, _, rfl, s3 _ _ ho, T.c_Step, T.n_Step_goal, rfl, _, rfl, o, _, dxo, _, _, rfl, s3 _ _ ho, T.c_Step, T.n_Step_laid, rfl, la, _, _, _, rfl, rfl, SqT.of (s3 _ _ hla'), at0, (by show 2 ≤ sizeLine; decide), fun t1 h1 => ⟨_, rfl, _, rfl, (by show 4 ≤ sizeLine; decide), fun t2 h2 => ?_⟩⟩
        have s4 := (s3.new (o := .tup [V.int st.go, V.int c]) h1).new (o := .tup [V.ref t1, V.bl (mk i), V.int (i : Nat), V.non]) h2
        have rm : Rp (upd (upd H3 t1 (.tup [V.int st.go, V.int c])) t2 (.tup [V.ref t1, V.bl (mk i), V.int (i : Nat), V.non])) (movD ((st.go, c), mk i, i, none)) (.ref t2) :=
          Rp.new h2 (.cons (Rp.new h1 (.cons rfl (.one rfl))) (.cons rfl (.cons rfl (.one rfl))))
        refine ⟨x, o, .ref t2, st, ((st.go, c), mk i, i, none), A0, H0, rfl, s4, hd3.same ((same_upd h1).new h2), stv s4, rm, by omega, fun H5 s5 _ hd5 => ⟨rfl, s5, hd5⟩⟩
    rintro σ' H4 ⟨rfl, s4, hd4⟩
    have A10 : (A0 ++ stM1 i st (mk i)).length ≤ 9001 := by
      rw [List.length_append]
      have : (stM1 i st (mk i)).length ≤ 1 := by
        unfold stM1
        split <;> simp
      omega
    have est : A0 ++ stMoves F i st (mk i) = (A0 ++ stM1 i st (mk i)) ++ stM2 F i st (mk i) := by
      unfold stMoves
      rw [List.append_assoc]
    rw [est]
    generalize A0 ++ stM1 i st (mk i) = A1 at *
    refine ⟨_, rfl, o, _, dxo, _, _, rfl, s4 _ _ ho, T.c_Step, T.n_Step_laid, rfl, la, _, rfl, .inr (SqT.of (s4 _ _ hla)), rfl, _, rfl, ?_⟩
    rw [lal]
    by_cases h2 : ∃ c d, st.la = [c, d]
    · obtain ⟨c, d, hL⟩ := h2
      have e2 : stM2 F i st (mk i) = (leav F st.go c).map fun e => ((st.st, st.lt), ((e.2.2.1, d), mk i || e.2.2.2, i, some e)) := by unfold stM2; rw [hL]
      rw [e2]
      refine if_t (by rw [hL]; exact decide_eq_true rfl) ?_
      have hla' : H0 la = some (.tup [V.int c, V.int d]) := by rw [hla, hL]; rfl
      have lv8 := leav_len hc tab st.go c
      have hT4 : TkAt P w K (fun x => ∃ u, H0 x = some u) H4 tk M mk F := by
        have z := hT.n (N' := fun x => ∃ u, H0 x = some u) fun x u _ e => ⟨u, e⟩
        exact z.same s4
      refine ⟨_, rfl, tk, dxt, _, rfl, s4 _ _ g1, rfl, _, rfl, o, _, dxo, _, _, rfl, s4 _ _ ho, T.c_Step, T.n_Step_goal, rfl, _, rfl, o, _, dxo, _, _, rfl, s4 _ _ ho, T.c_Step, T.n_Step_laid, rfl, la, _, _, _, rfl, rfl, SqT.of (s4 _ _ hla'), at0, tk, st.go, c, _, M, mk, F, rfl, hT4, fun l ys H5 s5 hl hl5 hys => ?_⟩
      have ysl : ys.length = (leav F st.go c).length := by rw [hys.len, List.length_map]
      refine ⟨l, rfl, ⟨_, SqL.of hl5⟩, for_it (walk_list (K := K) (a := l) (xs := ys)) (fun j σ H6 => ∃ (x6 : Option V), σ = [some (.ref x), some (.ref mx), some (.ref tk), some (.int (i : Nat)), some (.ref o), some (.bl (mk i)), x6] ∧ Same H0 H6 ∧ Tups H5 H6 ∧ H6 l = some (.lst ys) ∧
          HdAt K (fun x => H0 x = none) H6 x (A1 ++ ((leav F st.go c).take j).map fun e => ((st.st, st.lt), ((e.2.2.1, d), mk i || e.2.2.2, i, some e))))
        ⟨_, rfl, s4.trans s5, Tups.refl H5, hl5, by rw [List.take_zero, List.map_nil, List.append_nil]; exact hd4.same s5⟩ (fun j σ H6 _ ⟨_, _, _, _, z, _⟩ => SqL.of z) ?_ ?_⟩
      · rintro j ev σ _ H6 hj ⟨x6, rfl, s6, t6, hl6, hd6⟩ ⟨rfl, hev⟩
        obtain ⟨dd, hde, rde⟩ := hys.getV hev
        rw [List.getElem?_map] at hde
        obtain ⟨en, hen, rfl⟩ := Option.map_eq_some_iff.mp hde
        have ren := Rp.at t6 _ _ rde
        obtain ⟨eb, rfl, heb⟩ := ent_at ren
        obtain ⟨dxh, mdh, hx6, _⟩ := id hd6
        have hl0 : H0 l = some (.lst ys) := by
          rcases hl with ⟨u, e⟩ | ⟨_, e⟩
          · have := s6 _ _ e
            rw [hl6] at this
            cases this
            exact e
          · rw [e] at hev
            simp at hev
        have A11 : (A1 ++ ((leav F st.go c).take j).map fun e => (((st.st, st.lt), ((e.2.2.1, d), mk i || e.2.2.2, i, some e)) : Hd × Move)).length ≤ 9010 := by
          rw [List.length_append, List.length_map, List.length_take]
          omega
        have fin2 : ∀ (fl : Bool), fl = (mk i || en.2.2.2) → ∀ t1, H6 t1 = none → ∀ t2, (upd H6 t1 (.tup [V.int en.2.2.1, V.int d])) t2 = none → sp_put K [V.ref x, V.ref o, V.ref t2] (upd (upd H6 t1 (.tup [V.int en.2.2.1, V.int d])) t2 (.tup [V.ref t1, V.bl fl, V.int (i : Nat), V.ref eb])) (fun _ H' => ∃ (x6 : Option V), [some (V.ref x), some (V.ref mx), some (V.ref tk), some (V.int (i : Nat)), some (V.ref o), some (V.bl (mk i)), some (V.ref eb)] = [some (.ref x), some (.ref mx), some (.ref tk), some (.int (i : Nat)), some (.ref o), some (.bl (mk i)), x6] ∧ Same H0 H' ∧ Tups H5 H' ∧ H' l = some (.lst ys) ∧
            HdAt K (fun x => H0 x = none) H' x (A1 ++ ((leav F st.go c).take (j + 1)).map fun e => ((st.st, st.lt), ((e.2.2.1, d), mk i || e.2.2.2, i, some e)))) C8.E0 := by
          rintro fl rfl t1 h1 t2 h2
          have u2 := (same_upd (o := .tup [V.int en.2.2.1, V.int d]) h1).new (o := .tup [V.ref t1, V.bl (mk i || en.2.2.2), V.int (i : Nat), V.ref eb]) h2
          have rm : Rp (upd (upd H6 t1 (.tup [V.int en.2.2.1, V.int d])) t2 (.tup [V.ref t1, V.bl (mk i || en.2.2.2), V.int (i : Nat), V.ref eb])) (movD ((en.2.2.1, d), mk i || en.2.2.2, i, some en)) (.ref t2) :=
            Rp.new h2 (.cons (Rp.new h1 (.cons rfl (.one rfl))) (.cons rfl (.cons rfl (.one (Rp.at (same_upd h1).tups _ _ ren)))))
          refine ⟨x, o, .ref t2, st, ((en.2.2.1, d), mk i || en.2.2.2, i, some en), _, H0, rfl, s6.trans u2, hd6.same u2, stv (s6.trans u2), rm, by omega, fun H7 s7 k7 hd7 => ⟨_, rfl, s7, (t6.trans u2.tups).trans k7.tups, s7 _ _ hl0, ?_⟩⟩
          rw [List.take_add_one, hen, List.map_append, ← List.append_assoc]
          exact hd7
        refine ⟨_, rfl, x, dxh, _, rfl, hx6, rfl, _, rfl, _, rfl, eb, _, _, _, rfl, rfl, SqT.of heb, rfl, _, rfl, o, _, dxo, _, _, rfl, s6 _ _ ho, T.c_Step, T.n_Step_laid, rfl, la, _, _, _, rfl, rfl, SqT.of (s6 _ _ hla'), rfl, (by show 2 ≤ sizeLine; decide), fun t1 h1 => ⟨_, rfl, _, rfl, ite2 (fun cf => ?_) (fun cf => ?_)⟩⟩
        · exact ⟨_, rfl, _, rfl, (by show 4 ≤ sizeLine; decide), fun t2 h2 => fin2 true (by rw [cf, Bool.true_or]) t1 h1 t2 h2⟩
        · exact ⟨_, rfl, eb, _, _, _, rfl, rfl, SqT.of (same_upd h1 _ _ heb), rfl, _, rfl, _, rfl, (by show 4 ≤ sizeLine; decide), fun t2 h2 => fin2 en.2.2.2 (by rw [Bool.eq_false_iff.mpr cf, Bool.false_or]) t1 h1 t2 h2⟩
      · rintro σ H6 ⟨x6, rfl, s6, t6, hl6, hd6⟩
        rw [ysl, List.take_length] at hd6
        exact ⟨_, _, _, _, rfl, s6, hd6⟩
    · have hne : st.la.length ≠ 2 := fun z => h2 (by
        match hL : st.la with
        | [] => rw [hL] at z; simp at z
        | [_] => rw [hL] at z; simp at z
        | [c, d] => exact ⟨c, d, rfl⟩
        | _ :: _ :: _ :: _ => rw [hL] at z; simp at z)
      refine if_f (decide_eq_false fun z => hne (by injection z with z; omega)) ⟨_, _, _, _, rfl, s4, ?_⟩
      have e0 : stM2 F i st (mk i) = [] := by
        unfold stM2
        split
        · rename_i c d hL
          exact absurd ⟨c, d, hL⟩ h2
        · rfl
      rw [e0, List.append_nil]
      exact hd4
  · rintro σ H2 ⟨x3, x4, x5, x6, rfl, s2, hd2⟩
    rw [xl] at hd2
    exact fin H2 s2 hd2
end
end Pr
/-! Heads: what is reached. -/
namespace Pr
open PySem PySem.Spec PyProof.Rows L2 RT
open C8 (Cal Met Mak pe_c pe_mk pe_mt pe_mt0)
abbrev Rch1 := Hd × Option (Hd × Move)
def ndD : Option (Hd × Move) → PyData
  | none => .none
  | some x => .tuple [hdD x.1, movD x.2]
def rks (R : List Rch1) : List Hd := R.map (·.1)
/-- how each head was found -/
structure Chn (A : List (Hd × Move)) (h0 : Hd) (R : List Rch1) : Prop where
  nd : (rks R).Nodup
  has : h0 ∈ rks R
  of : ∀ (i : Nat) (x : Rch1), R[i]? = some x → (x.2 = none ∧ x.1 = h0) ∨ ∃ h m, x.2 = some (h, m) ∧ (h, m) ∈ A ∧ m.1 = x.1 ∧ ∃ j, j < i ∧ (R[j]?).map (·.1) = some h
theorem Chn.one (A : List (Hd × Move)) (h0 : Hd) : Chn A h0 [(h0, none)] := ⟨by simp [rks], by simp [rks], fun i x e => by
  cases i with
  | zero =>
    cases (show some (h0, none) = some x from e)
    exact .inl ⟨rfl, rfl⟩
  | succ i => simp at e⟩
theorem Chn.snoc {A : List (Hd × Move)} {h0 : Hd} {R : List Rch1} (c : Chn A h0 R) {h : Hd} {m : Move} (hm : (h, m) ∈ A) (hh : h ∈ rks R) (n : m.1 ∉ rks R) : Chn A h0 (R ++ [(m.1, some (h, m))]) := by
  refine ⟨?_, ?_, fun i x e => ?_⟩
  · unfold rks
    rw [List.map_append]
    refine List.nodup_append.mpr ⟨c.nd, by simp, fun a ha b hb z => ?_⟩
    have : b = m.1 := by simpa using hb
    rw [z, this] at ha
    exact n ha
  · unfold rks
    rw [List.map_append]
    exact List.mem_append_left _ c.has
  · by_cases l : i < R.length
    · rw [List.getElem?_append_left l] at e
      rcases c.of i x e with z | ⟨h', m', z1, z2, z3, j, hj, z4⟩
      · exact .inl z
      · exact .inr ⟨h', m', z1, z2, z3, j, hj, by rw [List.getElem?_append_left (by omega)]; exact z4⟩
    · have hi : i = R.length := by
        have := (List.getElem?_eq_some_iff.mp e).1
        rw [List.length_append, List.length_singleton] at this
        omega
      subst hi
      rw [List.getElem?_append_right (Nat.le_refl _), Nat.sub_self] at e
      cases (show some (m.1, some (h, m)) = some x from e)
      obtain ⟨y, hy, rfl⟩ := List.mem_map.mp hh
      obtain ⟨j, hj⟩ := List.mem_iff_getElem?.mp hy
      exact .inr ⟨y.1, m, rfl, hm, rfl, j, (List.getElem?_eq_some_iff.mp hj).1, by rw [List.getElem?_append_left (List.getElem?_eq_some_iff.mp hj).1, hj]; rfl⟩
theorem Chn.len {A : List (Hd × Move)} {h0 : Hd} {R : List Rch1} (c : Chn A h0 R) : R.length ≤ A.length + 1 := by
  have h := List.Nodup.length_le_of_subset c.nd (l₂ := h0 :: A.map fun x => x.2.1) fun k hk => by
    obtain ⟨x, hx, rfl⟩ := List.mem_map.mp hk
    obtain ⟨i, hi⟩ := List.mem_iff_getElem?.mp hx
    rcases c.of i x hi with ⟨_, z⟩ | ⟨h', m, _, z2, z3, _⟩
    · rw [z]
      exact List.mem_cons_self ..
    · exact List.mem_cons_of_mem _ (List.mem_map.mpr ⟨(h', m), z2, z3⟩)
  simpa [rks] using h
def Clsd (A : List (Hd × Move)) (R : List Rch1) : Prop := ∀ h ∈ rks R, ∀ m, (h, m) ∈ A → m.1 ∈ rks R
def RnR (H : Hp) (x : Rch1) (q : List Key × V) : Prop := q.1 = k2 x.1.1 x.1.2 ∧ Rp H (ndD x.2) q.2
def RnAt (H : Hp) (d : Addr) (R : List Rch1) : Prop := ∃ kvs : List (List Key × V), H d = some (.dT kvs) ∧ All2 (RnR H) R kvs
theorem RnAt.same {H H' : Hp} {d : Addr} {R : List Rch1} (h : RnAt H d R) (e : Same H H') : RnAt H' d R := let ⟨kvs, h1, h2⟩ := h; ⟨kvs, e _ _ h1, h2.imp fun _ _ z => ⟨z.1, Rp.at e.tups _ _ z.2⟩⟩
theorem rn_none {H : Hp} {R : List Rch1} {kvs : List (List Key × V)} (h : All2 (RnR H) R kvs) {k : Hd} : valV kvs (k2 k.1 k.2) = none ↔ k ∉ rks R := by
  unfold valV
  rw [Option.map_eq_none_iff, List.find?_eq_none]
  constructor
  · intro n m
    obtain ⟨x, hx, rfl⟩ := List.mem_map.mp m
    obtain ⟨i, hi⟩ := List.mem_iff_getElem?.mp hx
    obtain ⟨q, hq, h1, _⟩ := h.get hi
    exact n q (List.mem_of_getElem? hq) (by rw [h1]; exact decide_eq_true rfl)
  · intro n q hq z
    obtain ⟨i, hi⟩ := List.mem_iff_getElem?.mp hq
    obtain ⟨x, hx, h1, _⟩ := h.2 i q hi
    have z := of_decide_eq_true z
    rw [h1] at z
    have := k2_inj z
    exact n (List.mem_map.mpr ⟨x, List.mem_of_getElem? hx, Prod.ext this.1 this.2⟩)
theorem rn_at {H : Hp} {R : List Rch1} {kvs : List (List Key × V)} (h : All2 (RnR H) R kvs) (nd : (rks R).Nodup) {i : Nat} {x : Rch1} (hx : R[i]? = some x) : ∃ v, valV kvs (k2 x.1.1 x.1.2) = some v ∧ Rp H (ndD x.2) v := by
  cases e : kvs.find? (fun q => decide (q.1 = k2 x.1.1 x.1.2)) with
  | none =>
    have : valV kvs (k2 x.1.1 x.1.2) = none := by unfold valV; rw [e]; rfl
    exact absurd (List.mem_map.mpr ⟨x, List.mem_of_getElem? hx, rfl⟩) ((rn_none h).mp this)
  | some q =>
    have hq' : decide (q.1 = k2 x.1.1 x.1.2) = true := List.find?_some (p := fun q : List Key × V => decide (q.1 = k2 x.1.1 x.1.2)) e
    have hq := of_decide_eq_true hq'
    obtain ⟨j, hj⟩ := List.mem_iff_getElem?.mp (List.mem_of_find?_eq_some e)
    obtain ⟨y, hy, h1, h2⟩ := h.2 j q hj
    have ek := k2_inj (h1.symm.trans hq)
    have exy : y.1 = x.1 := Prod.ext ek.1 ek.2
    have ij : j = i := by
      have e1 : (rks R)[j]? = some x.1 := by unfold rks; rw [List.getElem?_map, hy]; exact congrArg some exy
      have e2 : (rks R)[i]? = some x.1 := by unfold rks; rw [List.getElem?_map, hx]; rfl
      exact (List.getElem?_inj (List.getElem?_eq_some_iff.mp e1).1 nd).mp (e1.trans e2.symm)
    subst ij
    rw [hx] at hy
    cases hy
    exact ⟨q.2, by unfold valV; rw [e]; rfl, h2⟩
section
variable {P : Program} {w : World} {K : PySem.W.Frag} {mg : Str → Option Value} {base : Heap}
def sp_reached (K : PySem.W.Frag) : Sp := fun vs H Q _ => ∃ (a l : Addr) (v : V) (h0 : Hd) (A : List (Hd × Move)) (N : Addr → Prop), vs = [.ref a, .ref l] ∧ HdAt K N H a A ∧ H l = some (.lst [v]) ∧ Rp H (hdD h0) v ∧ A.length ≤ 20000 ∧
  ∀ (d : Addr) (R : List Rch1) (H' : Hp), Same H H' → H d = none → RnAt H' d R → Chn A h0 R → Clsd A R → Q (.ref d) H'
theorem mov_at {H : Hp} {m : Move} {v : V} (r : Rp H (movD m) v) : ∃ (b hb : Addr) (ev : V), v = .ref b ∧ H b = some (.tup [.ref hb, .bl m.2.1, .int m.2.2.1, ev]) ∧ Rp H (hdD m.1) (.ref hb) ∧ Rp H (oeD m.2.2.2) ev := by
  obtain ⟨b, _, rfl, hb, v1, _, rfl, r1, v2, _, rfl, rfl, v3, _, rfl, rfl, v4, _, rfl, r4, rfl⟩ := r
  obtain ⟨hb', rfl, _⟩ := hd_at r1
  exact ⟨b, hb', v4, rfl, hb, r1, r4⟩
abbrev n_Heads_reached : List Str := ["self", "heads", "found", "head", "pending", "move"]
theorem sc_Heads_reached : FnScope n_Heads_reached ["self", "heads"] (defScope s_Heads_reached) := ⟨rfl, rfl, rfl, by decide +kernel, rfl, by decide +kernel, by decide +kernel⟩
theorem ok_reached (T : Env K mg) (c_Heads_moves_from : Met P w K mg base 1 (He.ga K "Heads") "moves_from" (sp_mfrom K) []) : Met P w K mg base 2 (He.ga K "Heads") "reached" (sp_reached K) [] := by
  obtain ⟨fd, F⟩ := T.F_Heads_reached
  refine met_by F T.c_Heads T.m_Heads_reached (F.bindsN fun _ _ _ _ _ _ us hl => match us, hl with | [_, _], _ => rfl) sc_Heads_reached (fun vs H Q E h => ?_) (fun cdv A outer s H vs Q E hr h => ?_)
  · obtain ⟨a, l, v, h0, A, N, rfl, _⟩ := h
    rfl
  obtain ⟨a, l, v, h0, A, N, rfl, hH, hl, rv, hA, k⟩ := h
  obtain ⟨hb, rfl, hhb⟩ := hd_at rv
  refine ⟨_, pss_cons (ps_set (i := 2) sc_Heads_reached.nd rfl (Or.inl rfl) pe_dnewT)
      (pss_cons (ps_for PassesOwn.never rfl (pi_list (pv 1)) (pg_name (i := 3) sc_Heads_reached.nd rfl (Or.inl rfl))
        (pss_one (ps_dput (hu_of hr) (pv 2) (pv 3) pe_non rfl)))
      (pss_cons (ps_set (i := 4) sc_Heads_reached.nd rfl (Or.inl rfl) (pe_callTy (call_list_dT rfl) (by rfl) T.f_list (by decide +kernel) (pa_cons (pv 2) pa_nil)))
      (pss_cons (ps_while PassesOwn.never (pt_cmpR op_gt (pe_callB call_len_seq (by rfl) T.f_len (by decide +kernel) (pa_cons (pv 4) pa_nil)) pe_int (nomark _))
        (pss_cons (ps_set (i := 3) sc_Heads_reached.nd rfl (Or.inl rfl) (pe_bm0 PySem.F.plainAttrs_list PySem.F.slot_list_pop PySem.F.type_list_pop mt_pop (pv 4)))
        (pss_one (ps_for PassesOwn.never rfl (pi_list (pe_mt c_Heads_moves_from hr (by omega) (pv 0) (pa_cons (pv 3) pa_nil))) (pg_name (i := 5) sc_Heads_reached.nd rfl (Or.inl rfl))
          (pss_one (ps_if (pt_cmp (pc_dnotin (hu_of hr) (pe_ix ix_tup (pv 5) pe_int (fun _ _ => rfl)) (pv 2)))
            (pss_cons (ps_dput (hu_of hr) (pv 2) (pe_ix ix_tup (pv 5) pe_int (fun _ _ => rfl)) (pe_tup (pa_cons (pv 3) (pa_cons (pv 5) pa_nil))) rfl)
            (pss_one (ps_expr (pe_bm PySem.F.plainAttrs_list PySem.F.slot_list_append PySem.F.type_list_append mt_append (pv 4) (pa_cons (pe_ix ix_tup (pv 5) pe_int (fun _ _ => rfl)) pa_nil)))))
            pss_nil))))))
      (pss_one (ps_ret (pv 2)))))), ?_⟩
  refine fun d hd => ?_
  have s1 := same_upd (o := .dT []) hd
  have hd1 : (upd H d (.dT [])) d = some (.dT []) := upd_same
  generalize upd H d (.dT []) = H1 at *
  refine ⟨_, rfl, l, rfl, ⟨_, SqL.of (s1 _ _ hl)⟩, for_it (walk_list (K := K) (a := l) (xs := [V.ref hb])) (fun j σ H2 => ∃ (x3 x4 x5 : Option V), σ = [some (.ref a), some (.ref l), some (.ref d), x3, x4, x5] ∧ Same H H2 ∧ H2 d = some (.dT (if j = 0 then [] else [(k2 h0.1 h0.2, .non)])))
    ⟨_, _, _, rfl, s1, hd1⟩ (fun j σ H2 _ ⟨_, _, _, _, z, _⟩ => SqL.of (z _ _ hl)) ?_ ?_⟩
  · rintro j yv σ _ H2 hj ⟨x3, x4, x5, rfl, s2, hd2⟩ ⟨rfl, hyj⟩
    have j0 : j = 0 := by simpa using hj
    subst j0
    have ey : V.ref hb = yv := by simpa using hyj
    subst ey
    rw [if_pos rfl] at hd2
    refine ⟨_, rfl, _, rfl, d, _, rfl, DPut.t (k := k2 h0.1 h0.2) hd2 (s2 _ _ hhb) (by show 0 < sizeLine; decide), ?_⟩
    exact ⟨_, _, _, rfl, s2.mut hd, upd_same⟩
  rintro σ H2 ⟨x3, x4, x5, rfl, s2, hd2⟩
  have hd2 : H2 d = some (.dT [(k2 h0.1 h0.2, .non)]) := hd2
  -- pending
  refine ⟨_, rfl, d, _, rfl, .inl hd2, fun p bs hp hbs => ?_⟩
  obtain ⟨b0, rfl, hb0⟩ : ∃ b0, bs = [b0] ∧ H2 b0 = some (.tup ((k2 h0.1 h0.2).map kV)) := by
    cases hbs with
    | cons z zz =>
      cases zz
      exact ⟨_, rfl, z⟩
  have s3 := s2.new (o := .lst [V.ref b0]) hp
  have p0 := s2.free hp
  have hd3 := same_upd (o := .lst [V.ref b0]) hp _ _ hd2
  have hp3 : (upd H2 p (.lst ([b0].map V.ref))) p = some (.lst [V.ref b0]) := upd_same
  have hb3 := same_upd (o := .lst [V.ref b0]) hp _ _ hb0
  have npd : p ≠ d := fun z => by rw [z, hd2] at hp; cases hp
  show tSeq _ _ _ _ (upd H2 p (.lst [V.ref b0]))
  replace hp3 : (upd H2 p (.lst [V.ref b0])) p = some (.lst [V.ref b0]) := hp3
  have rn3 : RnAt (upd H2 p (.lst [V.ref b0])) d [(h0, none)] := ⟨_, hd3, rfl, fun i q e => by
    cases i with
    | zero =>
      cases (show some (k2 h0.1 h0.2, V.non) = some q from e)
      exact ⟨_, rfl, rfl, rfl⟩
    | succ i => simp at e⟩
  have rb3 : Rp (upd H2 p (.lst [V.ref b0])) (hdD h0) (.ref b0) := ⟨b0, _, rfl, hb3, .cons rfl (.one rfl)⟩
  generalize upd H2 p (.lst [V.ref b0]) = H3 at *
  -- the rounds
  refine ⟨fun m σ H4 => ∃ (R : List Rch1) (ps : List Hd) (vs : List V) (x3 x5 : Option V), m = ps.length + 2 * (A.length + 1 - R.length) ∧ σ = [some (.ref a), some (.ref l), some (.ref d), x3, some (.ref p), x5] ∧ Same H H4 ∧ RnAt H4 d R ∧ H4 p = some (.lst vs) ∧ RpAll H4 (ps.map hdD) vs ∧ Chn A h0 R ∧ (∀ h ∈ ps, h ∈ rks R) ∧ ps.length ≤ R.length ∧
      ∀ h ∈ rks R, h ∈ ps ∨ ∀ m, (h, m) ∈ A → m.1 ∈ rks R,
    ⟨_, [(h0, none)], [h0], [.ref b0], _, _, rfl, rfl, s3, rn3, hp3, .one rb3, Chn.one A h0, fun h m => by simpa [rks] using m, Nat.le_refl _, fun h m => .inl (by simpa [rks] using m)⟩, ?_⟩
  rintro m σ H4 ⟨R, ps, vs, x3, x5, rfl, rfl, s4, rn4, hp4, rps, chn, psR, plR, cl⟩
  have vl : vs.length = ps.length := by rw [rps.len, List.length_map]
  refine ⟨_, rfl, p, _, rfl, .inl (SqL.of hp4), _, _, rfl, rfl, _, rfl, ?_⟩
  by_cases c0 : ps = []
  · subst c0
    have v0 : vs = [] := List.eq_nil_of_length_eq_zero vl
    subst v0
    refine if_f (by decide +kernel) ⟨_, rfl, k d R H4 s4 hd rn4 chn fun h hh m hm => ?_⟩
    rcases cl h hh with z | z
    · simp at z
    · exact z m hm
  obtain ⟨ps', hx, rfl⟩ : ∃ ps' hx, ps = ps' ++ [hx] := ⟨ps.dropLast, ps.getLast c0, (List.dropLast_concat_getLast c0).symm⟩
  rw [List.map_append] at rps
  obtain ⟨vs', vx, rfl, rps', rvx⟩ : ∃ vs' vx, vs = vs' ++ [vx] ∧ RpAll H4 (ps'.map hdD) vs' ∧ Rp H4 (hdD hx) vx := by
    have gen : ∀ {ds : List PyData} {d : PyData} {vs : List V}, RpAll H4 (ds ++ [d]) vs → ∃ vs' vx, vs = vs' ++ [vx] ∧ RpAll H4 ds vs' ∧ Rp H4 d vx := by
      intro ds
      induction ds with
      | nil =>
        intro d vs h
        obtain ⟨v, r, rfl, h1, h2⟩ := h
        cases (show r = [] from h2)
        exact ⟨[], v, rfl, rfl, h1⟩
      | cons a ds ih =>
        intro d vs h
        obtain ⟨v, r, rfl, h1, h2⟩ := h
        obtain ⟨vs', vx, rfl, h3, h4⟩ := ih h2
        exact ⟨v :: vs', vx, rfl, ⟨v, vs', rfl, h1, h3⟩, h4⟩
    exact gen rps
  refine if_t (decide_eq_true (by rw [List.length_append, List.length_singleton]; omega)) ⟨_, fun _ _ h => h, ?_⟩
  have hxR : hx ∈ rks R := psR hx (by simp)
  refine ⟨_, rfl, .inl ⟨rfl, _, SqL.of hp4⟩, p, _, vx, rfl, rfl, hp4, by simp, ?_⟩
  have p0' : H p = none := p0
  have e5 : (vs' ++ [vx]).dropLast = vs' := by simp
  have tp5 : Tups H4 (upd H4 p (.lst vs')) := tups_lst hp4
  have s5 : Same H (upd H4 p (.lst vs')) := s4.mut p0'
  have hp5 : (upd H4 p (.lst vs')) p = some (.lst vs') := upd_same
  have rps5 := RpAll.at tp5 _ _ rps'
  have rvx5 := Rp.at tp5 _ _ rvx
  have rn5 : RnAt (upd H4 p (.lst vs')) d R := by
    obtain ⟨kvs, q1, q2⟩ := rn4
    exact ⟨kvs, by rw [upd_ne (Ne.symm npd)]; exact q1, q2.imp fun _ _ z => ⟨z.1, Rp.at tp5 _ _ z.2⟩⟩
  try rw [e5]
  generalize upd H4 p (.lst vs') = H5 at *
  have hH5 : HdAt K (fun x => ∃ u, H x = some u) H5 a A := (hH.n fun x u _ e => ⟨u, e⟩).same s5
  obtain ⟨dx5, _, g5, _⟩ := id hH5
  refine ⟨_, rfl, a, dx5, _, rfl, g5, rfl, _, rfl, a, vx, hx, A, _, rfl, hH5, rvx5, fun l' ys H6 s6 hl' hl6 hys => ?_⟩
  have nlp : l' ≠ p := by
    rcases hl' with ⟨u, e⟩ | ⟨e, _⟩
    · exact fun z => by rw [z, p0'] at e; cases e
    · exact fun z => by rw [z, hp5] at e; cases e
  have nld : l' ≠ d := fun z => by
    obtain ⟨kvs, q1, _⟩ := rn5
    have := s6 _ _ q1
    rw [← z, hl6] at this
    cases this
  obtain ⟨bx, rfl, hbx⟩ := hd_at rvx5
  generalize hAA : mvs A hx = mm at *
  refine ⟨l', rfl, ⟨_, SqL.of hl6⟩, for_it (walk_list (K := K) (a := l') (xs := ys)) (fun j σ H7 => ∃ (R' : List Rch1) (ps2 : List Hd) (vs2 : List V) (x5 : Option V), σ = [some (.ref a), some (.ref l), some (.ref d), some (.ref bx), some (.ref p), x5] ∧ Same H H7 ∧ Tups H6 H7 ∧ H7 l' = some (.lst ys) ∧ RnAt H7 d R' ∧ H7 p = some (.lst vs2) ∧ RpAll H7 (ps2.map hdD) vs2 ∧ Chn A h0 R' ∧ (∀ h ∈ ps2, h ∈ rks R') ∧ ps2.length ≤ R'.length ∧
      (∀ h ∈ rks R, h ∈ rks R') ∧ (∀ h ∈ rks R', h ∈ ps2 ∨ h = hx ∨ ∀ m, (h, m) ∈ A → m.1 ∈ rks R') ∧ (∀ m ∈ mm.take j, m.1 ∈ rks R') ∧ ps2.length + 2 * (A.length + 1 - R'.length) ≤ ps'.length + 2 * (A.length + 1 - R.length))
    ⟨R, ps', vs', _, rfl, s5.trans s6, Tups.refl _, hl6, rn5.same s6, s6 _ _ hp5, RpAll.at s6.tups _ _ rps5, chn, fun h m => psR h (List.mem_append_left _ m), by rw [List.length_append] at plR; omega, fun _ m => m, fun h m => ?_, fun m z => by simp at z, Nat.le_refl _⟩
    (fun j σ H7 _ ⟨_, _, _, _, _, _, _, z, _⟩ => SqL.of z) ?_ ?_⟩
  · rcases cl h m with z | z
    · rcases List.mem_append.mp z with z | z
      · exact .inl z
      · exact .inr (.inl (by simpa using z))
    · exact .inr (.inr z)
  · rintro j yv σ _ H7 hj ⟨R', ps2, vs2, x5', rfl, s7, t7, hl7, ⟨kvs, hd7, al7⟩, hp7, rp7, ch7, pR7, pl7, sub7, cl7, mm7, me7⟩ ⟨rfl, hyj⟩
    obtain ⟨dd, hdj, rdj⟩ := hys.getV hyj
    rw [List.getElem?_map] at hdj
    obtain ⟨m, hm, rfl⟩ := Option.map_eq_some_iff.mp hdj
    have rdm := Rp.at t7 _ _ rdj
    obtain ⟨mb, hb', ev, rfl, hmb, rhb, rev⟩ := mov_at rdm
    obtain ⟨hb2, eq2, hhb2⟩ := hd_at rhb
    cases eq2
    have mA : (hx, m) ∈ A := mem_mvs.mp (by rw [hAA]; exact List.mem_of_getElem? hm)
    have Rl := ch7.len
    have kl : kvs.length = R'.length := al7.1
    have tk : mm.take (j + 1) = mm.take j ++ [m] := by rw [List.take_add_one, hm]; rfl
    refine ⟨_, rfl, mb, _, _, _, rfl, rfl, SqT.of hmb, rfl, _, rfl, d, _, rfl, DGet.t (k := k2 m.1.1 m.1.2) hd7 hhb2, ?_⟩
    cases hv : valV kvs (k2 m.1.1 m.1.2) with
    | some v =>
      have mR : m.1 ∈ rks R' := by
        refine Classical.byContradiction fun z => ?_
        rw [(rn_none al7).mpr z] at hv
        cases hv
      refine ⟨_, rfl, if_f rfl ⟨R', ps2, vs2, _, rfl, s7, t7, hl7, ⟨kvs, hd7, al7⟩, hp7, rp7, ch7, pR7, pl7, sub7, cl7, fun m' z => ?_, me7⟩⟩
      rw [tk] at z
      rcases List.mem_append.mp z with z | z
      · exact mm7 m' z
      · rw [show m' = m by simpa using z]
        exact mR
    | none =>
      have mR : m.1 ∉ rks R' := (rn_none al7).mp hv
      have hbx7 := t7 _ _ (s6.tups _ _ hbx)
      refine ⟨_, rfl, if_t rfl ⟨_, rfl, _, rfl, (by show 2 ≤ sizeLine; decide), fun nb hnb => ?_⟩⟩
      have u8 := same_upd (o := .tup [V.ref bx, V.ref mb]) hnb
      have s8 := s7.trans u8
      have rnew : Rp (upd H7 nb (.tup [V.ref bx, V.ref mb])) (ndD (some (hx, m))) (.ref nb) := Rp.new hnb (.cons ⟨bx, _, rfl, hbx7, .cons rfl (.one rfl)⟩ (.one rdm))
      have hd8 := u8 _ _ hd7
      have hp8 := u8 _ _ hp7
      have hl8 := u8 _ _ hl7
      have t8 := t7.trans u8.tups
      have hhb8 := u8 _ _ hhb2
      have hmb8 := u8 _ _ hmb
      have rhb8 := Rp.at u8.tups _ _ rhb
      have rp8 := RpAll.at u8.tups _ _ rp7
      have al8 := al7.imp fun _ _ z => (⟨z.1, Rp.at u8.tups _ _ z.2⟩ : RnR (upd H7 nb (.tup [V.ref bx, V.ref mb])) _ _)
      generalize upd H7 nb (.tup [V.ref bx, V.ref mb]) = H8 at *
      refine ⟨_, rfl, _, rfl, mb, _, _, _, rfl, rfl, SqT.of hmb8, rfl, d, _, rfl, DPut.t (k := k2 m.1.1 m.1.2) hd8 hhb8 (smallL (by omega)), ?_⟩
      have tp9 : Tups H8 (upd H8 d (.dT (putK kvs (k2 m.1.1 m.1.2) (V.ref nb)))) := fun c xs e => by rw [upd_ne (fun z => by rw [z, hd8] at e; cases e)]; exact e
      have hp9 : (upd H8 d (.dT (putK kvs (k2 m.1.1 m.1.2) (V.ref nb)))) p = some (.lst vs2) := by rw [upd_ne npd]; exact hp8
      have hl9 : (upd H8 d (.dT (putK kvs (k2 m.1.1 m.1.2) (V.ref nb)))) l' = some (.lst ys) := by rw [upd_ne nld]; exact hl8
      have hd9 : (upd H8 d (.dT (putK kvs (k2 m.1.1 m.1.2) (V.ref nb)))) d = some (.dT (kvs ++ [(k2 m.1.1 m.1.2, V.ref nb)])) := by rw [upd_same, putK_new _ hv]
      have s9 := s8.mut (o := .dT (putK kvs (k2 m.1.1 m.1.2) (V.ref nb))) hd
      generalize upd H8 d (.dT (putK kvs (k2 m.1.1 m.1.2) (V.ref nb))) = H9 at *
      have tp10 : Tups H9 (upd H9 p (.lst (vs2 ++ [V.ref hb']))) := tups_lst hp9
      have vl2 : vs2.length = ps2.length := by rw [rp7.len, List.length_map]
      refine ⟨_, rfl, .inl ⟨rfl, _, SqL.of hp9⟩, _, rfl, mb, _, _, _, rfl, rfl, SqT.of (tp9 _ _ hmb8), rfl, p, _, _, rfl, rfl, hp9, smallL (by omega), ?_⟩
      have ch10 := ch7.snoc mA (sub7 _ hxR) mR
      have l10 := ch10.len
      rw [List.length_append, List.length_singleton] at l10
      have rk : rks (R' ++ [(m.1, some (hx, m))]) = rks R' ++ [m.1] := by unfold rks; rw [List.map_append]; rfl
      refine ⟨R' ++ [(m.1, some (hx, m))], ps2 ++ [m.1], vs2 ++ [V.ref hb'], _, rfl, s9.mut p0', (t8.trans tp9).trans tp10, by rw [upd_ne nlp]; exact hl9,
        ⟨kvs ++ [(k2 m.1.1 m.1.2, V.ref nb)], by rw [upd_ne (Ne.symm npd)]; exact hd9, ?_⟩, upd_same, ?_, ch10, fun h z => ?_, ?_, fun h z => ?_, fun h z => ?_, fun m' z => ?_, ?_⟩
      · exact (al8.imp fun _ _ z => (⟨z.1, Rp.at (tp9.trans tp10) _ _ z.2⟩ : RnR (upd H9 p (.lst (vs2 ++ [V.ref hb']))) _ _)).snoc ⟨rfl, Rp.at (tp9.trans tp10) _ _ rnew⟩
      · rw [List.map_append]
        exact (RpAll.at (tp9.trans tp10) _ _ rp8).snoc (Rp.at (tp9.trans tp10) _ _ rhb8)
      · rw [rk]
        rcases List.mem_append.mp z with z | z
        · exact List.mem_append_left _ (pR7 h z)
        · exact List.mem_append_right _ z
      · simp only [List.length_append, List.length_singleton]
        omega
      · rw [rk]
        exact List.mem_append_left _ (sub7 h z)
      · rw [rk] at z ⊢
        rcases List.mem_append.mp z with z | z
        · rcases cl7 h z with y | y | y
          · exact .inl (List.mem_append_left _ y)
          · exact .inr (.inl y)
          · exact .inr (.inr fun m' q => List.mem_append_left _ (y m' q))
        · exact .inl (List.mem_append_right _ z)
      · rw [rk]
        rw [tk] at z
        rcases List.mem_append.mp z with z | z
        · exact List.mem_append_left _ (mm7 m' z)
        · rw [show m' = m by simpa using z]
          exact List.mem_append_right _ (List.mem_singleton.mpr rfl)
      · simp only [List.length_append, List.length_singleton]
        omega
  · rintro σ H7 ⟨R', ps2, vs2, x5', rfl, s7, t7, hl7, rn7, hp7, rp7, ch7, pR7, pl7, sub7, cl7, mm7, me7⟩
    refine ⟨_, ?_, R', ps2, vs2, _, _, rfl, rfl, s7, rn7, hp7, rp7, ch7, pR7, pl7, fun h m => ?_⟩
    · rw [List.length_append, List.length_singleton]
      omega
    · rcases cl7 h m with z | rfl | z
      · exact .inl z
      · refine .inr fun m' q => mm7 m' ?_
        rw [List.take_of_length_le (by have := hys.len; rw [List.length_map] at this; omega), ← hAA]
        exact mem_mvs.mpr q
      · exact .inr z
end
end Pr
/-! The way to a head. -/
namespace Pr
open PySem PySem.Spec PyProof.Rows L2 RT
open C8 (Cal Met Mak pe_c pe_mk pe_mt pe_mt0)
theorem rks_at {R : List Rch1} {h : Hd} (m : h ∈ rks R) : ∃ (i : Nat) (o : Option (Hd × Move)), R[i]? = some (h, o) := by
  obtain ⟨x, hx, rfl⟩ := List.mem_map.mp m
  obtain ⟨i, hi⟩ := List.mem_iff_getElem?.mp hx
  exact ⟨i, x.2, hi⟩
section
variable {P : Program} {w : World} {K : PySem.W.Frag} {mg : Str → Option Value} {base : Heap}
def sp_way : Sp := fun vs H Q _ => ∃ (d : Addr) (v : V) (A : List (Hd × Move)) (h0 : Hd) (R : List Rch1) (h : Hd), vs = [.ref d, v] ∧ RnAt H d R ∧ Chn A h0 R ∧ A.length ≤ 20000 ∧ Rp H (hdD h) v ∧ h ∈ rks R ∧
  ∀ (l : Addr) (ys : List V) (ms : List Move) (H' : Hp), Same H H' → H l = none → H' l = some (.lst ys) → RpAll H' (ms.map movD) ys → (∀ m ∈ ms, ∃ h, (h, m) ∈ A) → ms.length ≤ 20001 → Q (.ref l) H'
theorem RpAll.rev {H : Hp} : ∀ {ds : List PyData} {vs : List V}, RpAll H ds vs → RpAll H ds.reverse vs.reverse
  | [], _, h => by rw [show _ = ([] : List V) from h]; exact rfl
  | d :: ds, _, ⟨v, r, e, h1, h2⟩ => by
    rw [e, List.reverse_cons, List.reverse_cons]
    exact (RpAll.rev h2).snoc h1
abbrev n_way_to : List Str := ["found", "head", "moves", "move"]
theorem sc_way_to : FnScope n_way_to ["found", "head"] (defScope s_way_to) := ⟨rfl, rfl, rfl, by decide +kernel, rfl, by decide +kernel, by decide +kernel⟩
theorem ok_way (T : Env K mg) : Cal P w K mg base 1 "way_to" sp_way [] := by
  obtain ⟨fd, F⟩ := T.F_way_to
  refine cal_by F T.g_way_to (F.bindsN fun _ _ _ _ _ _ us hl => match us, hl with | [_, _], _ => rfl) sc_way_to (fun vs H Q E h => ?_) (fun cdv A outer s H vs Q E hr h => ?_)
  · obtain ⟨d, v, A, h0, R, h, rfl, _⟩ := h
    rfl
  obtain ⟨d, v, A, h0, R, hx, rfl, ⟨kvs, hd, al⟩, ch, hA, rv, mR, k⟩ := h
  obtain ⟨b, rfl, hb⟩ := hd_at rv
  obtain ⟨i, o, hi⟩ := rks_at mR
  have Rl := ch.len
  refine ⟨_, pss_cons (ps_set (i := 2) sc_way_to.nd rfl (Or.inl rfl) (pe_lst pa_nil))
      (pss_cons (ps_while PassesOwn.never (pt_cmpR op_notN (pe_dget (hu_of hr) (pv 0) (pv 1) (fun _ _ => rfl)) pe_non (nomark _))
        (pss_cons (ps_asg (pe_dget (hu_of hr) (pv 0) (pv 1) (fun _ _ => rfl)) (pg_tup (by rfl) (pgs_cons (pg_name (i := 1) sc_way_to.nd rfl (Or.inl rfl)) (pgs_cons (pg_name (i := 3) sc_way_to.nd rfl (Or.inl rfl)) pgs_nil))))
        (pss_one (ps_expr (pe_bm PySem.F.plainAttrs_list PySem.F.slot_list_append PySem.F.type_list_append mt_append (pv 2) (pa_cons (pv 3) pa_nil))))))
      (pss_one (ps_ret (pe_revL (pv 2))))), ?_⟩
  refine ⟨Nat.zero_le _, fun l hl => ?_⟩
  have s1 := same_upd (o := .lst []) hl
  have hl1 : (upd H l (.lst [])) l = some (.lst []) := upd_same
  generalize upd H l (.lst []) = H1 at *
  refine ⟨fun m σ H2 => ∃ (h : Hd) (o : Option (Hd × Move)) (b : Addr) (ms : List Move) (ys : List V) (x3 : Option V), R[m]? = some (h, o) ∧ σ = [some (.ref d), some (.ref b), some (.ref l), x3] ∧ Same H H2 ∧ H2 b = some (.tup ((k2 h.1 h.2).map kV)) ∧ H2 l = some (.lst ys) ∧ RpAll H2 (ms.map movD) ys ∧ (∀ m ∈ ms, ∃ h, (h, m) ∈ A) ∧ ms.length + m ≤ R.length,
    ⟨i, hx, o, b, [], [], _, hi, rfl, s1, s1 _ _ hb, hl1, rfl, fun m z => by simp at z, by have := (List.getElem?_eq_some_iff.mp hi).1; simp; omega⟩, ?_⟩
  rintro m σ H2 ⟨h, o, b, ms, ys, x3, hm, rfl, s2, hb2, hl2, hys, hms, ml⟩
  have al2 := al.imp fun _ _ z => (⟨z.1, Rp.at s2.tups _ _ z.2⟩ : RnR H2 _ _)
  obtain ⟨v, hv, rv⟩ := rn_at al2 ch.nd hm
  have hd2 := s2 _ _ hd
  have g : DGet H2 d (.ref b) (some v) := by rw [← hv]; exact DGet.t hd2 hb2
  refine ⟨_, rfl, _, rfl, d, v, rfl, g, ?_⟩
  rcases ch.of m _ hm with ⟨e, _⟩ | ⟨h', mv, e, hA', _, j, hj, hR⟩
  · have e : o = none := e
    subst e
    cases (show v = V.non from rv)
    refine ⟨rfl, _, rfl, if_f (by decide +kernel) ⟨_, rfl, l, ys, rfl, SqL.of hl2, fun p hp => ?_⟩⟩
    refine k p ys.reverse ms.reverse _ (s2.new hp) (s2.free hp) upd_same ?_ (fun m z => hms m (List.mem_reverse.mp z)) (by rw [List.length_reverse]; omega)
    rw [List.map_reverse]
    exact RpAll.at (same_upd hp).tups _ _ hys.rev
  · have e : o = some (h', mv) := e
    subst e
    obtain ⟨u, _, rfl, hu, v1, _, rfl, r1, v2, _, rfl, r2, rfl⟩ := id rv
    refine ⟨rfl, _, rfl, if_t (by simp) ⟨_, fun _ _ h => h, ?_⟩⟩
    obtain ⟨b1, rfl, hb1⟩ := hd_at r1
    obtain ⟨o', hR'⟩ : ∃ o', R[j]? = some (h', o') := by
      obtain ⟨y, hy, hy2⟩ := Option.map_eq_some_iff.mp hR
      exact ⟨y.2, by rw [hy, ← hy2]⟩
    refine ⟨_, rfl, _, rfl, d, _, rfl, g, ?_⟩
    refine ⟨_, _, rfl, SqT.of hu, rfl, _, _, rfl, _, _, rfl, rfl, ?_⟩
    have yl : ys.length = ms.length := by rw [hys.len, List.length_map]
    have ml' := (List.getElem?_eq_some_iff.mp hm).1
    refine ⟨_, rfl, .inl ⟨rfl, _, SqL.of hl2⟩, _, rfl, l, _, _, rfl, rfl, hl2, smallL (by omega), ?_⟩
    have tp : Tups H2 (upd H2 l (.lst (ys ++ [v2]))) := tups_lst hl2
    refine ⟨j, hj, h', o', b1, ms ++ [mv], ys ++ [v2], _, hR', rfl, s2.mut hl, tp _ _ hb1, upd_same, ?_, fun m z => ?_, ?_⟩
    · rw [List.map_append]
      exact (RpAll.at tp _ _ hys).snoc (Rp.at tp _ _ r2)
    · rcases List.mem_append.mp z with z | z
      · exact hms m z
      · rw [show m = mv by simpa using z]
        exact ⟨h', hA'⟩
    · rw [List.length_append, List.length_singleton]
      omega
end
end Pr
/-! descents: a pile of one letter. -/
namespace Pr
open PySem PySem.Spec PyProof.Rows L2 RT
open C8 (Cal Met Mak pe_c pe_mk pe_mt pe_mt0)
section
variable {P : Program} {w : World} {K : PySem.W.Frag} {mg : Str → Option Value} {base : Heap}
def sp_desc (P : Program) (w : World) (K : PySem.W.Frag) : Sp := fun vs H Q _ => ∃ (tk t pl : Addr) (s c : Nat) (N : Addr → Prop) (M : List Stp) (mk μ : Nat → Bool) (S L : Nat) (F : List Fd), vs = [.ref tk, .ref t] ∧ TkAt P w K N H tk M mk F ∧ (∀ x, N x → ∃ u, H x = some u) ∧ H t = some (.tup [.int s, .ref pl]) ∧ H pl = some (.tup [.int c]) ∧
  Mch M mk μ S L ∧ Tab M μ F ∧ S ≤ 4 ∧ ∀ (d z : Addr) (H' : Hp), Same H H' → H d = none → H' d = some (.dT [(k2 s c, .ref z)]) → H' z = some (.tup []) → Q (.ref d) H'
abbrev n_descents : List Str := ["table", "configuration", "state", "pile", "found", "level", "letter", "lower", "before", "entries", "entry"]
theorem sc_descents : FnScope n_descents ["table", "configuration"] (defScope s_descents) := ⟨rfl, rfl, rfl, by decide +kernel, rfl, by decide +kernel, by decide +kernel⟩
theorem ok_desc (T : Env K mg) (c_TakeOff_entries : Met P w K mg base 1 (He.ga K "TakeOff") "entries" (sp_ents P w K) []) : Cal P w K mg base 2 "descents" (sp_desc P w K) [] := by
  obtain ⟨fd, F⟩ := T.F_descents
  refine cal_by F T.g_descents (F.bindsN fun _ _ _ _ _ _ us hl => match us, hl with | [_, _], _ => rfl) sc_descents (fun vs H Q E h => ?_) (fun cdv A outer s H vs Q E hr h => ?_)
  · obtain ⟨tk, t, pl, s, c, N, M, mk, μ, S, L, F, rfl, _⟩ := h
    rfl
  obtain ⟨tk, t, pl, s, c, N, M, mk, μ, S, L, F, rfl, hT, hN, ht, hpl, hc, tab, hS, k⟩ := h
  refine ⟨_, pss_cons (ps_asg (pv 1) (pg_tup (by rfl) (pgs_cons (pg_name (i := 2) sc_descents.nd rfl (Or.inl rfl)) (pgs_cons (pg_name (i := 3) sc_descents.nd rfl (Or.inl rfl)) pgs_nil))))
      (pss_cons (ps_set (i := 4) sc_descents.nd rfl (Or.inl rfl) pe_dnewT)
      (pss_cons (ps_set (i := 5) sc_descents.nd rfl (Or.inl rfl) (pe_disp (pps_cons (pv 2) (pe_tup pa_nil) pps_nil) (by rfl) (by rfl) (fun z => by cases z) (by decide)))
      (pss_cons (ps_for PassesOwn.never rfl (pi_tup (pv 3)) (pg_name (i := 6) sc_descents.nd rfl (Or.inl rfl))
        (pss_cons (ps_set (i := 7) sc_descents.nd rfl (Or.inl rfl) pe_dnewK)
        (pss_cons (ps_lock (ps_for PassesOwn.never rfl (pi_items (pv 5)) (pg_tup (by rfl) (pgs_cons (pg_name (i := 8) sc_descents.nd rfl (Or.inl rfl)) (pgs_cons (pg_name (i := 9) sc_descents.nd rfl (Or.inl rfl)) pgs_nil)))
          (C8.pss_cut (ps_if (pt_cmp (pc_dnotin (hu_of hr) (pe_tup (pa_cons (pv 8) (pa_cons (pv 6) pa_nil))) (pv 4)))
            (pss_one (ps_dput (hu_of hr) (pv 4) (pe_tup (pa_cons (pv 8) (pa_cons (pv 6) pa_nil))) (pv 9) rfl))
            pss_nil)
          (pss_one (ps_for PassesOwn.never rfl (pi_list (pe_mt c_TakeOff_entries hr (by omega) (pv 0) (pa_cons (pv 8) (pa_cons (pv 6) pa_nil)))) (pg_name (i := 10) sc_descents.nd rfl (Or.inl rfl))
            (pss_one (ps_if (pt_cmp (pc_dnotin (hu_of hr) (pe_ix ix_tup (pv 10) pe_int (fun _ _ => rfl)) (pv 7)))
              (pss_one (ps_dput (hu_of hr) (pv 7) (pe_ix ix_tup (pv 10) pe_int (fun _ _ => rfl)) (pe_op op_catA (pv 9) (pe_tup (pa_cons (pv 10) pa_nil))) rfl))
              pss_nil)))))))
        (pss_one (ps_set (i := 5) sc_descents.nd rfl (Or.inl rfl) (pv 7))))))
      (pss_one (ps_ret (pv 4)))))), ?_⟩
  refine ⟨_, rfl, t, _, rfl, SqT.of ht, rfl, _, _, rfl, _, _, rfl, rfl, ?_⟩
  refine fun d hd p hp => ⟨_, rfl, Nat.zero_le _, fun z hz => ⟨(same_upd hz _ _ upd_same), [(Sum.inl (s : Int), .ref z)], rfl, by simp, ?_⟩⟩
  rw [show mergeK [] [((Sum.inl (s : Int) : Key), V.ref z)] = [(Sum.inl (s : Int), V.ref z)] from rfl]
  have s0 := ((same_upd (o := .dT []) hd).new (o := .dK []) hp).new (o := .tup []) hz
  have p0 : H p = none := (same_upd hd).free hp
  have nzp : z ≠ p := fun e => by
    rw [e, upd_same] at hz
    cases hz
  have ndp : d ≠ p := fun e => by
    rw [← e, upd_same] at hp
    cases hp
  have ndz : d ≠ z := fun e => by
    rw [← e, upd_ne ndp, upd_same] at hz
    cases hz
  have s1 := s0.mut (o := .dK [(Sum.inl (s : Int), V.ref z)]) p0
  have hp1 : (upd (upd (upd (upd H d (.dT [])) p (.dK [])) z (.tup [])) p (.dK [(Sum.inl (s : Int), V.ref z)])) p = some (.dK [(Sum.inl (s : Int), V.ref z)]) := upd_same
  have hz1 : (upd (upd (upd (upd H d (.dT [])) p (.dK [])) z (.tup [])) p (.dK [(Sum.inl (s : Int), V.ref z)])) z = some (.tup []) := by rw [upd_ne nzp]; exact upd_same
  have hd1 : (upd (upd (upd (upd H d (.dT [])) p (.dK [])) z (.tup [])) p (.dK [(Sum.inl (s : Int), V.ref z)])) d = some (.dT []) := by rw [upd_ne ndp, upd_ne ndz, upd_ne ndp]; exact upd_same
  generalize upd (upd (upd (upd H d (.dT [])) p (.dK [])) z (.tup [])) p (.dK [(Sum.inl (s : Int), V.ref z)]) = H1 at *
  refine ⟨_, rfl, pl, rfl, ⟨_, SqT.of (s1 _ _ hpl)⟩, for_it (walk_tup (K := K) (a := pl) (xs := [V.int c])) (fun j σ H2 => ∃ (x5 x6 x7 x8 x9 x10 : Option V), σ = [some (.ref tk), some (.ref t), some (.int s), some (.ref pl), some (.ref d), x5, x6, x7, x8, x9, x10] ∧ Same H H2 ∧ H2 z = some (.tup []) ∧
      (j = 0 → x5 = some (.ref p) ∧ H2 p = some (.dK [(Sum.inl (s : Int), V.ref z)]) ∧ H2 d = some (.dT [])) ∧ (j = 1 → H2 d = some (.dT [(k2 s c, .ref z)])))
    ⟨_, _, _, _, _, _, rfl, s1, hz1, fun _ => ⟨rfl, hp1, hd1⟩, fun e => by cases e⟩ (fun j σ H2 _ ⟨_, _, _, _, _, _, _, y, _⟩ => SqT.of (y _ _ hpl)) ?_ ?_⟩
  · rintro j yv σ _ H2 hj ⟨x5, x6, x7, x8, x9, x10, rfl, s2, hz2, q0, _⟩ ⟨rfl, hyj⟩
    have j0 : j = 0 := by simpa using hj
    subst j0
    have ey : V.int c = yv := by simpa using hyj
    subst ey
    obtain ⟨rfl, hp2, hd2⟩ := q0 rfl
    refine fun lo hlo => ?_
    have u3 := same_upd (o := .dK []) hlo
    have s3 := s2.new (o := .dK []) hlo
    have lo0 := s2.free hlo
    have hz3 := u3 _ _ hz2
    have hp3 := u3 _ _ hp2
    have hd3 := u3 _ _ hd2
    have hlo3 : (upd H2 lo (.dK [])) lo = some (.dK []) := upd_same
    have nlp : lo ≠ p := Ne.symm (ne_of_none hp2 hlo)
    have nld : lo ≠ d := Ne.symm (ne_of_none hd2 hlo)
    have nlz : lo ≠ z := Ne.symm (ne_of_none hz2 hlo)
    generalize upd H2 lo (.dK []) = H3 at *
    refine ⟨p, _, hp3, trivial, fun od => ?_⟩
    have s4 := s3.mut (o := .frz od (.dK [(Sum.inl (s : Int), V.ref z)])) p0
    have hp4 : (upd H3 p (.frz od (.dK [(Sum.inl (s : Int), V.ref z)]))) p = some (.frz od (.dK [(Sum.inl (s : Int), V.ref z)])) := upd_same
    have hz4 : (upd H3 p (.frz od (.dK [(Sum.inl (s : Int), V.ref z)]))) z = some (.tup []) := by rw [upd_ne nzp]; exact hz3
    have hd4 : (upd H3 p (.frz od (.dK [(Sum.inl (s : Int), V.ref z)]))) d = some (.dT []) := by rw [upd_ne ndp]; exact hd3
    have hlo4 : (upd H3 p (.frz od (.dK [(Sum.inl (s : Int), V.ref z)]))) lo = some (.dK []) := by rw [upd_ne nlp]; exact hlo3
    generalize upd H3 p (.frz od (.dK [(Sum.inl (s : Int), V.ref z)])) = H4 at *
    refine ⟨_, rfl, p, od, _, rfl, hp4, for_it (walk_items (kvs := [(Sum.inl (s : Int), V.ref z)])) (fun q σ H5 => ∃ (x8 x9 x10 : Option V), σ = [some (.ref tk), some (.ref t), some (.int s), some (.ref pl), some (.ref d), some (.ref p), some (.int c), some (.ref lo), x8, x9, x10] ∧ Same H H5 ∧ H5 z = some (.tup []) ∧ H5 p = some (.frz od (.dK [(Sum.inl (s : Int), V.ref z)])) ∧
        (∃ lv, H5 lo = some (.dK lv) ∧ (q = 0 → lv = [])) ∧ (q = 0 → H5 d = some (.dT [])) ∧ (q = 1 → H5 d = some (.dT [(k2 s c, .ref z)])))
      ⟨_, _, _, rfl, s4, hz4, hp4, ⟨_, hlo4, fun _ => rfl⟩, fun _ => hd4, fun e => by cases e⟩ (fun q σ H5 _ ⟨_, _, _, _, _, _, y, _⟩ => y) ?_ ?_⟩
    · rintro q wv σ H5 _ hq ⟨x8, x9, x10, rfl, s5, hz5, hp5, ⟨lv, hlo5, elv⟩, hd5, _⟩ ⟨U, kx, vx, rfl, hU, rfl, e1, e2⟩
      have q0 : q = 0 := by simpa using hq
      subst q0
      cases elv rfl
      have hd5 := hd5 rfl
      cases (show some (V.int s) = some kx from e1)
      cases (show some (V.ref z) = some vx from e2)
      have u6 := same_upd (o := .tup [V.int s, V.ref z]) hU
      have s6 := s5.trans u6
      have hU6 : (upd H5 U (.tup [V.int s, V.ref z])) U = some (.tup [V.int s, V.ref z]) := upd_same
      have hz6 := u6 _ _ hz5
      have hp6 := u6 _ _ hp5
      have hd6 := u6 _ _ hd5
      have hlo6 := u6 _ _ hlo5
      generalize upd H5 U (.tup [V.int s, V.ref z]) = H6 at *
      refine ⟨U, _, rfl, SqT.of hU6, rfl, _, _, rfl, _, _, rfl, rfl, ?_⟩
      refine ⟨fun σ' H' => σ' = [some (.ref tk), some (.ref t), some (.int s), some (.ref pl), some (.ref d), some (.ref p), some (.int c), some (.ref lo), some (.int s), some (.ref z), x10] ∧ Same H H' ∧ H' z = some (.tup []) ∧ H' p = some (.frz od (.dK [(Sum.inl (s : Int), V.ref z)])) ∧ H' lo = some (.dK []) ∧ H' d = some (.dT [(k2 s c, .ref z)]), ?_, ?_⟩
      · refine ⟨_, rfl, _, rfl, (by show 2 ≤ sizeLine; decide), fun kb hkb => ⟨_, rfl, d, _, rfl, DGet.t (k := k2 s c) (same_upd hkb _ _ hd6) upd_same, _, rfl, if_t rfl ?_⟩⟩
        have u7 := same_upd (o := .tup [V.int s, V.int c]) hkb
        have s7 := s6.trans u7
        have hz7 := u7 _ _ hz6
        have hp7 := u7 _ _ hp6
        have hd7 := u7 _ _ hd6
        have hlo7 := u7 _ _ hlo6
        generalize upd H6 kb (.tup [V.int s, V.int c]) = H7 at *
        refine ⟨_, rfl, _, rfl, _, rfl, _, rfl, (by show 2 ≤ sizeLine; decide), fun kb2 hkb2 => ?_⟩
        have u8 := same_upd (o := .tup [V.int s, V.int c]) hkb2
        have hd8 := u8 _ _ hd7
        refine ⟨d, _, rfl, DPut.t (k := k2 s c) hd8 upd_same (by show 0 < sizeLine; decide), ?_⟩
        have nd : ∀ {x : Addr} {u : HO}, (upd H7 kb2 (.tup [V.int s, V.int c])) x = some u → x ≠ d → (upd (upd H7 kb2 (.tup [V.int s, V.int c])) d (.dT (putK [] (k2 s c) (V.ref z)))) x = some u := fun e n => by rw [upd_ne n]; exact e
        exact ⟨rfl, (s7.trans u8).mut hd, nd (u8 _ _ hz7) (Ne.symm ndz), nd (u8 _ _ hp7) (Ne.symm ndp), nd (u8 _ _ hlo7) nld, upd_same⟩
      rintro σ' H7 ⟨rfl, s7, hz7, hp7, hlo7, hd7⟩
      have hT7 : TkAt P w K (fun x => ∃ u, H x = some u) H7 tk M mk F := (hT.n fun x u n _ => hN x n).same s7
      obtain ⟨dx7, _, _, _, _, _, g1, _⟩ := hT7.ex
      refine ⟨_, rfl, tk, dx7, _, rfl, g1, rfl, _, rfl, _, rfl, tk, s, c, _, M, mk, F, rfl, hT7, fun l ys H8 s8 hl hl8 hys => ?_⟩
      have nll : l ≠ lo := by
        rcases hl with ⟨u, e⟩ | ⟨e, _⟩
        · exact fun z => by rw [z, lo0] at e; cases e
        · exact fun z => by rw [z, hlo7] at e; cases e
      have ysl : ys.length = (leav F s c).length := by rw [hys.len, List.length_map]
      have lv8 := leav_len hc tab s c
      refine ⟨l, rfl, ⟨_, SqL.of hl8⟩, for_it (walk_list (K := K) (a := l) (xs := ys)) (fun e σ H9 => ∃ (x10 : Option V) (lv : List (Key × V)), σ = [some (.ref tk), some (.ref t), some (.int s), some (.ref pl), some (.ref d), some (.ref p), some (.int c), some (.ref lo), some (.int s), some (.ref z), x10] ∧ Same H H9 ∧ SameB (· = lo) H8 H9 ∧ H9 lo = some (.dK lv) ∧ lv.length ≤ e)
        ⟨_, [], rfl, s7.trans s8, fun _ _ e _ => e, s8 _ _ hlo7, Nat.zero_le _⟩ (fun e σ H9 _ ⟨_, _, _, _, y, _⟩ => SqL.of (y _ _ hl8 nll)) ?_ ?_⟩
      · rintro e ev σ _ H9 he ⟨x10', lv, rfl, s9, sb9, hlo9, lvl⟩ ⟨rfl, hev⟩
        have tp9 : Tups H8 H9 := fun b ys e => sb9 _ _ e fun z => by
          rw [show b = lo from z, s8 _ _ hlo7] at e
          cases e
        obtain ⟨dd, hde, rde⟩ := hys.getV hev
        rw [List.getElem?_map] at hde
        obtain ⟨en, hen, rfl⟩ := Option.map_eq_some_iff.mp hde
        have ren := Rp.at tp9 _ _ rde
        obtain ⟨eb, rfl, heb⟩ := ent_at ren
        have hz9 := tp9 _ _ (s8 _ _ hz7)
        refine ⟨_, rfl, eb, _, _, _, rfl, rfl, SqT.of heb, rfl, _, rfl, lo, _, rfl, DGet.k (k := Sum.inl ((en.2.2.1 : Nat) : Int)) hlo9, _, rfl, ?_⟩
        cases hv : valV lv (Sum.inl ((en.2.2.1 : Nat) : Int)) with
        | some v => exact if_f rfl ⟨_, lv, rfl, s9, sb9, hlo9, by omega⟩
        | none =>
          refine if_t rfl ⟨_, rfl, _, rfl, (by show 1 ≤ sizeLine; decide), fun tt htt => ?_⟩
          have u10 := same_upd (o := .tup [V.ref eb]) htt
          refine ⟨z, tt, [], [.ref eb], rfl, rfl, SqT.of (u10 _ _ hz9), SqT.of upd_same, small (by simp), fun _ => ?_, fun _ e1 => by simp at e1, fun e0 => absurd rfl e0⟩
          have hlo10 := u10 _ _ hlo9
          refine ⟨_, rfl, _, rfl, eb, _, _, _, rfl, rfl, SqT.of (u10 _ _ heb), rfl, lo, _, rfl, DPut.k (k := Sum.inl ((en.2.2.1 : Nat) : Int)) hlo10 (smallL (by omega)), ?_⟩
          exact ⟨_, _, rfl, (s9.trans u10).mut lo0, SameB.upd (fun b u e n => u10 _ _ (sb9 b u e n)) rfl, upd_same, by have := length_putK lv (Sum.inl ((en.2.2.1 : Nat) : Int)) (V.ref tt); omega⟩
      · rintro σ H9 ⟨x10', lv, rfl, s9, sb9, hlo9, lvl⟩
        exact ⟨_, _, _, rfl, s9, sb9 _ _ (s8 _ _ hz7) (Ne.symm nlz), sb9 _ _ (s8 _ _ hp7) (Ne.symm nlp), ⟨lv, hlo9, fun e => by cases e⟩, (fun e => by cases e), fun _ => sb9 _ _ (s8 _ _ hd7) (Ne.symm nld)⟩
    · rintro σ H5 ⟨x8, x9, x10, rfl, s5, hz5, hp5, ⟨lv, hlo5, _⟩, _, hd5⟩
      have hd5 := hd5 rfl
      have np : ∀ {x : Addr} {u : HO}, H5 x = some u → x ≠ p → (upd H5 p (.dK [(Sum.inl (s : Int), V.ref z)])) x = some u := fun e n => by rw [upd_ne n]; exact e
      exact ⟨hp5, _, rfl, _, _, _, _, _, _, rfl, s5.mut p0, np hz5 nzp, fun e => (by cases e), fun _ => np hd5 ndp⟩
  · rintro σ H2 ⟨x5, x6, x7, x8, x9, x10, rfl, s2, hz2, _, hd2⟩
    exact ⟨_, rfl, k d z H2 s2 hd (hd2 rfl) hz2⟩
end
end Pr
/-! ring_at. -/
namespace Pr
open PySem PySem.Spec PyProof.Rows L2 RT
open C8 (Cal Met Mak pe_c pe_mk pe_mt pe_mt0)
/-- no ring through (h, m) -/
def NoR1 (A : List (Hd × Move)) (h : Hd) (m : Move) : Prop := m.2.1 = true → ∃ R', Chn A m.1 R' ∧ Clsd A R' ∧ h ∉ rks R'
def NoRing (A : List (Hd × Move)) (R : List Rch1) : Prop := ∀ h ∈ rks R, ∀ m, (h, m) ∈ A → NoR1 A h m
theorem unlock {H H5 : Hp} {d : Addr} {u v : HO} (hd : H d = some u) (s : Same (upd H d v) H5) : Same H (upd H5 d u) := fun b x e => by
  by_cases c : b = d
  · subst c
    rw [hd] at e
    cases e
    exact upd_same
  · rw [upd_ne c]
    exact s _ _ (by rw [upd_ne c]; exact e)
section
variable {P : Program} {w : World} {K : PySem.W.Frag} {mg : Str → Option Value} {base : Heap}
theorem HdAt.lck {N : Addr → Prop} {H : Hp} {a d : Addr} {A : List (Hd × Move)} {l : List (List Key × V)} {v : HO} (h : HdAt K N H a A) (hN : ∀ x, N x → x ≠ d ∧ ∃ u, H x = some u) (hd : H d = some (.dT l)) : HdAt K (fun x => ∃ u, (upd H d v) x = some u) (upd H d v) a A := by
  obtain ⟨dx, md, h1, h2⟩ := h
  have tp : Tups H (upd H d v) := fun c xs e => by rw [upd_ne (fun z => by rw [z, hd] at e; cases e)]; exact e
  refine ⟨dx, md, by rw [upd_ne (fun z => by rw [z, hd] at h1; cases h1)]; exact h1, h2.move tp (fun l z => ?_) fun x l n z => ?_⟩
  · have n := (hN md h2.n).1
    have : (upd H d v) md = some (.dT l) := by rw [upd_ne n]; exact z
    exact ⟨⟨_, this⟩, this⟩
  · have n := (hN x n).1
    have : (upd H d v) x = some (.lst l) := by rw [upd_ne n]; exact z
    exact ⟨⟨_, this⟩, this⟩
def sp_ring (K : PySem.W.Frag) : Sp := fun vs H Q _ => ∃ (a d : Addr) (A : List (Hd × Move)) (R : List Rch1) (N : Addr → Prop), vs = [.ref a, .ref d] ∧ HdAt K N H a A ∧ (∀ x, N x → x ≠ d ∧ ∃ u, H x = some u) ∧ RnAt H d R ∧ A.length ≤ 20000 ∧
  (∀ H', Same H H' → NoRing A R → Q .non H') ∧ ∀ (t hb mb l : Addr) (h : Hd) (m : Move) (ms : List Move) (ys : List V) (H' : Hp), Same H H' → H' t = some (.tup [.ref hb, .ref mb, .ref l]) → Rp H' (hdD h) (.ref hb) → Rp H' (movD m) (.ref mb) → H' l = some (.lst ys) → RpAll H' (ms.map movD) ys →
    h ∈ rks R → (h, m) ∈ A → m.2.1 = true → (∀ m ∈ ms, ∃ h, (h, m) ∈ A) → ms.length ≤ 20001 → (∃ R', Chn A m.1 R' ∧ h ∈ rks R') → Q (.ref t) H'
abbrev n_ring_at : List Str := ["heads", "found", "head", "move", "back"]
theorem sc_ring_at : FnScope n_ring_at ["heads", "found"] (defScope s_ring_at) := ⟨rfl, rfl, rfl, by decide +kernel, rfl, by decide +kernel, by decide +kernel⟩
theorem ok_ring (T : Env K mg) (c_Heads_moves_from : Met P w K mg base 1 (He.ga K "Heads") "moves_from" (sp_mfrom K) []) (c_Heads_reached : Met P w K mg base 2 (He.ga K "Heads") "reached" (sp_reached K) []) (c_way_to : Cal P w K mg base 1 "way_to" sp_way []) : Cal P w K mg base 3 "ring_at" (sp_ring K) [] := by
  obtain ⟨fd, F⟩ := T.F_ring_at
  refine cal_by F T.g_ring_at (F.bindsN fun _ _ _ _ _ _ us hl => match us, hl with | [_, _], _ => rfl) sc_ring_at (fun vs H Q E h => ?_) (fun cdv A outer s H vs Q E hr h => ?_)
  · obtain ⟨a, d, A, R, N, rfl, _⟩ := h
    rfl
  obtain ⟨a, d, A, R, N, rfl, hH, hN, ⟨kvs, hd, al⟩, hA, k0, k1⟩ := h
  refine ⟨_, pss_cons (ps_lock (ps_for PassesOwn.never rfl (pi_keys (pv 1)) (pg_name (i := 2) sc_ring_at.nd rfl (Or.inl rfl))
        (pss_one (ps_for PassesOwn.never rfl (pi_list (pe_mt c_Heads_moves_from hr (by omega) (pv 0) (pa_cons (pv 2) pa_nil))) (pg_name (i := 3) sc_ring_at.nd rfl (Or.inl rfl))
          (pss_one (ps_if (pt_val (pe_ix ix_tup (pv 3) pe_int (fun _ _ => rfl)))
            (pss_cons (ps_set (i := 4) sc_ring_at.nd rfl (Or.inl rfl) (pe_mt c_Heads_reached hr (by omega) (pv 0) (pa_cons (pe_lst (pa_cons (pe_ix ix_tup (pv 3) pe_int (fun _ _ => rfl)) pa_nil)) pa_nil)))
            (pss_one (ps_if (pt_cmp (pc_din (hu_of hr) (pv 2) (pv 4)))
              (pss_one (ps_ret (pe_tup (pa_cons (pv 2) (pa_cons (pv 3) (pa_cons (pe_c c_way_to hr (by omega) rfl (pa_cons (pv 4) (pa_cons (pv 2) pa_nil))) pa_nil))))))
              pss_nil)))
            pss_nil))))))
      (pss_one (ps_ret pe_non)), ?_⟩
  refine ⟨d, _, hd, trivial, fun od => ?_⟩
  have hd4 : (upd H d (.frz od (.dT kvs))) d = some (.frz od (.dT kvs)) := upd_same
  have un : ∀ {H5 : Hp}, Same (upd H d (.frz od (.dT kvs))) H5 → Same H (upd H5 d (.dT kvs)) := fun s => unlock hd s
  have hH4 := hH.lck (v := .frz od (.dT kvs)) hN hd
  have tp4 : Tups H (upd H d (.frz od (.dT kvs))) := fun c xs e => by rw [upd_ne (fun z => by rw [z, hd] at e; cases e)]; exact e
  generalize upd H d (.frz od (.dT kvs)) = H4 at *
  have hH5 : ∀ {H5 : Hp}, Same H4 H5 → HdAt K (fun x => ∃ u, H4 x = some u) H5 a A := fun s => hH4.same s
  refine ⟨_, rfl, d, od, rfl, .inr ⟨kvs, hd4, for_it (walk_keysT (kvs := kvs)) (fun i σ H5 => ∃ (x2 x3 x4 : Option V), σ = [some (.ref a), some (.ref d), x2, x3, x4] ∧ Same H4 H5 ∧ ∀ h ∈ rks (R.take i), ∀ m, (h, m) ∈ A → NoR1 A h m)
    ⟨_, _, _, rfl, Same.refl _, fun h m => by simp [rks] at m⟩ (fun i σ H5 _ ⟨_, _, _, _, y, _⟩ => y _ _ hd4) ?_ ?_⟩⟩
  · rintro i yv σ _ H5 hi ⟨x2, x3, x4, rfl, s5, no5⟩ ⟨rfl, key, v, q, hiv, rfl, hq⟩
    obtain ⟨x, hx, ek, _⟩ := al.2 i _ hiv
    have ek : key = k2 x.1.1 x.1.2 := ek
    subst ek
    have rq : Rp H5 (hdD x.1) (.ref q) := ⟨q, _, rfl, hq, .cons rfl (.one rfl)⟩
    have mx : x.1 ∈ rks R := List.mem_map.mpr ⟨x, List.mem_of_getElem? hx, rfl⟩
    have tkR : R.take (i + 1) = R.take i ++ [x] := by rw [List.take_add_one, hx]; rfl
    obtain ⟨dx5, _, g5, _⟩ := hH5 s5
    refine ⟨_, rfl, a, dx5, _, rfl, g5, rfl, _, rfl, a, .ref q, x.1, A, _, rfl, hH5 s5, rq, fun l' ys H6 s6 hl' hl6 hys => ?_⟩
    generalize hAA : mvs A x.1 = mm at *
    have s56 := s5.trans s6
    refine ⟨l', rfl, ⟨_, SqL.of hl6⟩, for_it (walk_list (K := K) (a := l') (xs := ys)) (fun j σ H7 => ∃ (x3 x4 : Option V), σ = [some (.ref a), some (.ref d), some (.ref q), x3, x4] ∧ Same H6 H7 ∧ ∀ m ∈ mm.take j, NoR1 A x.1 m)
      ⟨_, _, rfl, Same.refl _, fun m z => by simp at z⟩ (fun j σ H7 _ ⟨_, _, _, y, _⟩ => SqL.of (y _ _ hl6)) ?_ ?_⟩
    · rintro j yv σ _ H7 hj ⟨x3', x4', rfl, s7, no7⟩ ⟨rfl, hyj⟩
      obtain ⟨dd, hdj, rdj⟩ := hys.getV hyj
      rw [List.getElem?_map] at hdj
      obtain ⟨m, hm, rfl⟩ := Option.map_eq_some_iff.mp hdj
      have rdm := Rp.at s7.tups _ _ rdj
      obtain ⟨mb, hb', ev, rfl, hmb, rhb, rev⟩ := mov_at rdm
      have mA : (x.1, m) ∈ A := mem_mvs.mp (by rw [hAA]; exact List.mem_of_getElem? hm)
      have tk : mm.take (j + 1) = mm.take j ++ [m] := by rw [List.take_add_one, hm]; rfl
      refine ⟨_, rfl, mb, _, _, _, rfl, rfl, SqT.of hmb, rfl, _, rfl, ?_⟩
      cases e : m.2.1 with
      | false =>
        refine if_f rfl ⟨_, _, rfl, s7, fun m' z => ?_⟩
        rw [tk] at z
        rcases List.mem_append.mp z with z | z
        · exact no7 m' z
        · rw [show m' = m by simpa using z]
          exact fun y => by rw [e] at y; cases y
      | true =>
        have s67 := s56.trans s7
        obtain ⟨dx7, _, g7, _⟩ := hH5 s67
        refine if_t rfl ⟨_, rfl, a, dx7, _, rfl, g7, rfl, _, rfl, mb, _, _, _, rfl, rfl, SqT.of hmb, rfl, (by show 1 ≤ sizeLine; decide), fun ll hll => ?_⟩
        have u8 := same_upd (o := .lst [V.ref hb']) hll
        refine ⟨a, ll, .ref hb', m.1, A, _, rfl, hH5 (s67.trans u8), upd_same, Rp.at u8.tups _ _ rhb, hA, fun d2 R2 H9 s9 hd2 rn2 ch2 cl2 => ?_⟩
        have s79 := u8.trans s9
        have hq9 := s79 _ _ (s7 _ _ (s6 _ _ hq))
        obtain ⟨kvs2, hk2, al2⟩ := id rn2
        refine ⟨_, rfl, _, rfl, d2, _, rfl, DGet.t (k := k2 x.1.1 x.1.2) hk2 hq9, _, rfl, ?_⟩
        cases hv : valV kvs2 (k2 x.1.1 x.1.2) with
        | none =>
          refine if_f rfl ⟨_, _, rfl, s7.trans s79, fun m' z => ?_⟩
          rw [tk] at z
          rcases List.mem_append.mp z with z | z
          · exact no7 m' z
          · rw [show m' = m by simpa using z]
            exact fun _ => ⟨R2, ch2, cl2, (rn_none al2).mp hv⟩
        | some v2 =>
          have mR : x.1 ∈ rks R2 := by
            refine Classical.byContradiction fun z => ?_
            rw [(rn_none al2).mpr z] at hv
            cases hv
          have rq9 : Rp H9 (hdD x.1) (.ref q) := ⟨q, _, rfl, hq9, .cons rfl (.one rfl)⟩
          refine if_t rfl ⟨_, rfl, _, rfl, _, rfl, _, rfl, d2, .ref q, A, m.1, R2, x.1, rfl, rn2, ch2, hA, rq9, mR, fun l3 ys3 ms H10 s10 hl3 hl3' hys3 hms msl => ⟨(by show 3 ≤ sizeLine; decide), fun t ht => ?_⟩⟩
          have u11 := same_upd (o := .tup [V.ref q, V.ref mb, V.ref l3]) ht
          have sall := ((s67.trans s79).trans s10).trans u11
          have hd11 := sall _ _ hd4
          have htt : (upd H10 t (.tup [V.ref q, V.ref mb, V.ref l3])) t = some (.tup [V.ref q, V.ref mb, V.ref l3]) := upd_same
          have hl11 := u11 _ _ hl3'
          have rm11 := Rp.at ((s79.trans s10).trans u11).tups _ _ rdm
          have rq11 := Rp.at (s10.trans u11).tups _ _ rq9
          have rys11 := RpAll.at u11.tups _ _ hys3
          generalize upd H10 t (.tup [V.ref q, V.ref mb, V.ref l3]) = H11 at *
          have tp : Tups H11 (upd H11 d (.dT kvs)) := fun c xs e => by rw [upd_ne (fun z => by rw [z, hd11] at e; cases e)]; exact e
          exact ⟨hd11, k1 t q mb l3 x.1 m ms ys3 _ (un sall) (tp _ _ htt) (Rp.at tp _ _ rq11) (Rp.at tp _ _ rm11) (by rw [upd_ne (fun z => by rw [z, hd11] at hl11; cases hl11)]; exact hl11) (RpAll.at tp _ _ rys11) mx mA e hms msl ⟨R2, ch2, mR⟩⟩
    · rintro σ H7 ⟨x3', x4', rfl, s7, no7⟩
      refine ⟨_, _, _, rfl, s56.trans s7, fun h hm m mA => ?_⟩
      rw [tkR] at hm
      unfold rks at hm
      rw [List.map_append] at hm
      rcases List.mem_append.mp hm with z | z
      · exact no5 h z m mA
      · have : h = x.1 := by simpa using z
        subst this
        refine no7 m ?_
        rw [List.take_of_length_le (by have := hys.len; rw [List.length_map] at this; omega), ← hAA]
        exact mem_mvs.mpr mA
  · rintro σ H5 ⟨x2, x3, x4, rfl, s5, no5⟩
    refine ⟨s5 _ _ hd4, k0 _ (un s5) fun h hm => no5 h ?_⟩
    rw [List.take_of_length_le (by have := al.1; omega)]
    exact hm
end
end Pr
/-! told_ranks: the ranks are bounded. -/
namespace Pr
open PySem PySem.Spec PyProof.Rows L2 RT
open C8 (Cal Met Mak pe_c pe_mk pe_mt pe_mt0)
inductive Rea (A : List (Hd × Move)) : Hd → Hd → Prop
  | refl (h : Hd) : Rea A h h
  | cons {h k : Hd} {m : Move} : (h, m) ∈ A → Rea A m.1 k → Rea A h k
inductive Pth (A : List (Hd × Move)) : Hd → Nat → Prop
  | nil (h : Hd) : Pth A h 0
  | cons {h : Hd} {m : Move} {r : Nat} : (h, m) ∈ A → Pth A m.1 r → Pth A h (r + m.2.1.toNat)
theorem Clsd.rea {A : List (Hd × Move)} {R : List Rch1} (c : Clsd A R) {h k : Hd} (r : Rea A h k) : h ∈ rks R → k ∈ rks R := by
  induction r with
  | refl => exact id
  | cons mA _ ih => exact fun z => ih (c _ z _ mA)
theorem Pth.srcs {A : List (Hd × Move)} {R : List Rch1} (c : Clsd A R) (n : NoRing A R) {h : Hd} {r : Nat} (p : Pth A h r) : h ∈ rks R → ∃ L : List Hd, L.length = r ∧ L.Nodup ∧ (∀ k ∈ L, k ∈ rks R) ∧ ∀ k ∈ L, Rea A h k := by
  induction p with
  | nil => exact fun _ => ⟨[], rfl, List.nodup_nil, fun k z => by simp at z, fun k z => by simp at z⟩
  | @cons h m r mA _ ih =>
    intro hR
    obtain ⟨L, h1, h2, h3, h4⟩ := ih (c _ hR _ mA)
    cases e : m.2.1 with
    | false => exact ⟨L, h1, h2, h3, fun k z => .cons mA (h4 k z)⟩
    | true =>
      refine ⟨h :: L, by simp [h1], List.nodup_cons.mpr ⟨fun z => ?_, h2⟩, fun k z => ?_, fun k z => ?_⟩
      · obtain ⟨R', ch, cl, no⟩ := n h hR m mA e
        exact no (cl.rea (h4 h z) ch.has)
      · rcases List.mem_cons.mp z with rfl | z
        · exact hR
        · exact h3 k z
      · rcases List.mem_cons.mp z with rfl | z
        · exact .refl _
        · exact .cons mA (h4 k z)
theorem Pth.le {A : List (Hd × Move)} {R : List Rch1} (c : Clsd A R) (n : NoRing A R) {h : Hd} {r : Nat} (p : Pth A h r) (hR : h ∈ rks R) : r ≤ R.length := by
  obtain ⟨L, h1, h2, h3, _⟩ := p.srcs c n hR
  have := List.Nodup.length_le_of_subset h2 (l₂ := rks R) h3
  unfold rks at this
  rw [List.length_map] at this
  omega
def RkK (L : List Hd) (f : Hd → Nat) : List (List Key × V) := L.map fun h => (k2 h.1 h.2, V.int ((f h : Nat) : Int))
def updF (f : Hd → Nat) (h : Hd) (r : Nat) : Hd → Nat := fun x => if x = h then r else f x
def tot (L : List Hd) (f : Hd → Nat) : Nat := (L.map f).sum
theorem tot_le {L : List Hd} {f : Hd → Nat} {n : Nat} (h : ∀ x ∈ L, f x ≤ n) : tot L f ≤ L.length * n := by
  induction L with
  | nil => simp [tot]
  | cons a L ih =>
    have h1 := h a (List.mem_cons_self ..)
    have h2 := ih fun x m => h x (List.mem_cons_of_mem _ m)
    show f a + tot L f ≤ (L.length + 1) * n
    rw [Nat.succ_mul]
    omega
theorem tot_mono {L : List Hd} {f : Hd → Nat} {h : Hd} {r : Nat} (l : f h < r) : tot L f ≤ tot L (updF f h r) ∧ (h ∈ L → tot L f < tot L (updF f h r)) := by
  induction L with
  | nil => exact ⟨Nat.le_refl _, fun z => by simp at z⟩
  | cons a L ih =>
    have e1 : tot (a :: L) f = f a + tot L f := rfl
    have e2 : tot (a :: L) (updF f h r) = updF f h r a + tot L (updF f h r) := rfl
    have e3 : f a ≤ updF f h r a := by
      unfold updF
      split
      · rename_i e
        rw [e]
        omega
      · omega
    rw [e1, e2]
    refine ⟨by omega, fun z => ?_⟩
    rcases List.mem_cons.mp z with e | z
    · have : updF f h r a = r := by unfold updF; rw [if_pos e.symm]
      rw [this, ← e]
      omega
    · have := ih.2 z
      omega
theorem rk_val {L : List Hd} {f : Hd → Nat} {h : Hd} (m : h ∈ L) : valV (RkK L f) (k2 h.1 h.2) = some (.int ((f h : Nat) : Int)) := by
  induction L with
  | nil => simp at m
  | cons a L ih =>
    by_cases e : a = h
    · subst e
      simp [RkK, valV]
    · have m' : h ∈ L := by
        rcases List.mem_cons.mp m with z | z
        · exact absurd z.symm e
        · exact z
      have ne : ¬ k2 a.1 a.2 = k2 h.1 h.2 := fun z => e (Prod.ext (k2_inj z).1 (k2_inj z).2)
      have := ih m'
      simp only [RkK, valV, List.map_cons, List.find?_cons, decide_eq_false ne] at this ⊢
      exact this
theorem rk_new {L : List Hd} {f : Hd → Nat} {h : Hd} (m : h ∉ L) : valV (RkK L f) (k2 h.1 h.2) = none := by
  induction L with
  | nil => rfl
  | cons a L ih =>
    have ne : ¬ k2 a.1 a.2 = k2 h.1 h.2 := fun z => m (by rw [show a = h from Prod.ext (k2_inj z).1 (k2_inj z).2]; exact List.mem_cons_self ..)
    have := ih fun z => m (List.mem_cons_of_mem _ z)
    simp only [RkK, valV, List.map_cons, List.find?_cons, decide_eq_false ne] at this ⊢
    exact this
end Pr
/-! told_ranks. -/
namespace Pr
open PySem PySem.Spec PyProof.Rows L2 RT
open C8 (Cal Met Mak pe_c pe_mk pe_mt pe_mt0)
theorem rk_put {L : List Hd} {f : Hd → Nat} {h : Hd} (r : Nat) (m : h ∈ L) : putK (RkK L f) (k2 h.1 h.2) (V.int ((r : Nat) : Int)) = RkK L (updF f h r) := by
  have ha : ((RkK L f).any fun kv => decide (kv.1 = k2 h.1 h.2)) = true := by
    rw [List.any_eq_true]
    exact ⟨_, List.mem_map.mpr ⟨h, m, rfl⟩, decide_eq_true rfl⟩
  unfold putK
  rw [if_pos ha]
  unfold RkK
  rw [List.map_map]
  refine List.map_congr_left fun x _ => ?_
  show (if k2 x.1 x.2 = k2 h.1 h.2 then _ else _) = _
  unfold updF
  by_cases e : x = h
  · subst e
    simp
  · have ne : ¬ k2 x.1 x.2 = k2 h.1 h.2 := fun z => e (Prod.ext (k2_inj z).1 (k2_inj z).2)
    rw [if_neg ne, if_neg e]
theorem updF_le {A : List (Hd × Move)} {f : Hd → Nat} {h : Hd} {m : Move} (p : ∀ x, Pth A x (f x)) (mA : (h, m) ∈ A) : ∀ x, Pth A x (updF f h (f m.1 + m.2.1.toNat) x) := fun x => by
  unfold updF
  split
  · rename_i e
    subst e
    exact .cons mA (p _)
  · exact p x
theorem same_lck {H H1 : Hp} {d : Addr} {v : HO} (s : Same H H1) : Same (upd H d v) (upd H1 d v) := fun b x e => by
  by_cases c : b = d
  · subst c
    rw [upd_same] at e ⊢
    exact e
  · rw [upd_ne c] at e ⊢
    exact s _ _ e
def itD (h : Hd) (r : Nat) : PyData := .tuple [hdD h, .int r]
theorem itD_alike (h : Hd) (r : Nat) (h' : Hd) (r' : Nat) : PySem.W.alike (itD h r) (itD h' r') = true := by
  simp [itD, hdD, PySem.W.alike, PySem.W.alikeAll]
theorem itD_depth (h : Hd) (r : Nat) : (itD h r).depth ≤ 8 := by
  simp [itD, hdD, PyData.depth, PyData.depthAll]
section
variable {P : Program} {w : World} {K : PySem.W.Frag} {mg : Str → Option Value} {base : Heap}
def sp_ranks (K : PySem.W.Frag) : Sp := fun vs H Q _ => ∃ (a d : Addr) (A : List (Hd × Move)) (R : List Rch1) (N : Addr → Prop), vs = [.ref a, .ref d] ∧ HdAt K N H a A ∧ (∀ x, N x → x ≠ d ∧ ∃ u, H x = some u) ∧ RnAt H d R ∧ (rks R).Nodup ∧ Clsd A R ∧ NoRing A R ∧ R.length ≤ 20001 ∧
  ∀ (t : Addr) (H' : Hp), Same H H' → Q (.ref t) H'
abbrev n_told_ranks : List Str := ["heads", "found", "ranks", "head", "changed", "move", "rank"]
theorem sc_told_ranks : FnScope n_told_ranks ["heads", "found"] (defScope s_told_ranks) := ⟨rfl, rfl, rfl, by decide +kernel, rfl, by decide +kernel, by decide +kernel⟩
theorem ok_ranks (T : Env K mg) (c_Heads_moves_from : Met P w K mg base 1 (He.ga K "Heads") "moves_from" (sp_mfrom K) []) : Cal P w K mg base 2 "told_ranks" (sp_ranks K) [] := by
  obtain ⟨fd, F⟩ := T.F_told_ranks
  refine cal_by F T.g_told_ranks (F.bindsN fun _ _ _ _ _ _ us hl => match us, hl with | [_, _], _ => rfl) sc_told_ranks (fun vs H Q E h => ?_) (fun cdv A outer s H vs Q E hr h => ?_)
  · obtain ⟨a, d, A, R, N, rfl, _⟩ := h
    rfl
  obtain ⟨a, d, A, R, N, rfl, hH, hN, ⟨kvs, hd, al⟩, nd, cl, no, hR, k⟩ := h
  refine ⟨_, pss_cons (ps_set (i := 2) sc_told_ranks.nd rfl (Or.inl rfl) pe_dnewT)
      (pss_cons (ps_lock (ps_for PassesOwn.never rfl (pi_keys (pv 1)) (pg_name (i := 3) sc_told_ranks.nd rfl (Or.inl rfl))
        (pss_one (ps_dput (hu_of hr) (pv 2) (pv 3) pe_int rfl))))
      (pss_cons (ps_set (i := 4) sc_told_ranks.nd rfl (Or.inl rfl) pe_bl)
      (pss_cons (ps_while PassesOwn.never (pt_val (pv 4))
        (pss_cons (ps_set (i := 4) sc_told_ranks.nd rfl (Or.inl rfl) pe_bl)
        (pss_one (ps_lock (ps_for PassesOwn.never rfl (pi_keys (pv 1)) (pg_name (i := 3) sc_told_ranks.nd rfl (Or.inl rfl))
          (pss_one (ps_for PassesOwn.never rfl (pi_list (pe_mt c_Heads_moves_from hr (by omega) (pv 0) (pa_cons (pv 3) pa_nil))) (pg_name (i := 5) sc_told_ranks.nd rfl (Or.inl rfl))
            (pss_cons (ps_set (i := 6) sc_told_ranks.nd rfl (Or.inl rfl) (pe_op op_add (pe_dget (hu_of hr) (pv 2) (pe_ix ix_tup (pv 5) pe_int (fun _ _ => rfl)) (fun _ _ => rfl)) (pe_callTy call_int1 (by rfl) T.f_int (by decide +kernel) (pa_cons (pe_ix ix_tup (pv 5) pe_int (fun _ _ => rfl)) pa_nil))))
            (pss_one (ps_if (pt_cmpR op_gt (pv 6) (pe_dget (hu_of hr) (pv 2) (pv 3) (fun _ _ => rfl)) (nomark _))
              (pss_cons (ps_dput (hu_of hr) (pv 2) (pv 3) (pv 6) rfl)
              (pss_one (ps_set (i := 4) sc_told_ranks.nd rfl (Or.inl rfl) pe_bl)))
              pss_nil))))))))))
      (pss_one (ps_ret (pe_callTy call_tuple_of (by rfl) T.f_tuple (by decide +kernel) (pa_cons (pe_callB (cr_sortedX hr.units) (by rfl) T.f_sorted (by decide +kernel) (pa_cons (pe_callTy (cr_listItT rfl) (by rfl) T.f_list (by decide +kernel) (pa_cons (pe_bm0 PySem.F.plainAttrs_dict PySem.F.slot_dict_items PySem.F.type_dict_items DX.mt_itemsT (pv 2)) pa_nil)) pa_nil)) pa_nil))))))), ?_⟩
  refine fun rk hrk => ?_
  have s1 := same_upd (o := .dT []) hrk
  have hrk1 : (upd H rk (.dT [])) rk = some (.dT []) := upd_same
  have nrd : rk ≠ d := Ne.symm (ne_of_none hd hrk)
  have hd1 := s1 _ _ hd
  generalize upd H rk (.dT []) = H1 at *
  have Ll : (rks R).length = R.length := by unfold rks; rw [List.length_map]
  have tpd : ∀ {v : HO} {H' : Hp}, Same H H' → Tups H' (upd H' d v) := fun s c xs e => by rw [upd_ne (fun z => by rw [z, s _ _ hd] at e; cases e)]; exact e
  refine ⟨d, _, hd1, trivial, fun od => ?_⟩
  have sL : Same (upd H d (.frz od (.dT kvs))) (upd H1 d (.frz od (.dT kvs))) := same_lck s1
  have hL : (upd H1 d (.frz od (.dT kvs))) d = some (.frz od (.dT kvs)) := upd_same
  have rk0 : (upd H d (.frz od (.dT kvs))) rk = none := by rw [upd_ne nrd]; exact hrk
  have hrk2 : (upd H1 d (.frz od (.dT kvs))) rk = some (.dT []) := by rw [upd_ne nrd]; exact hrk1
  have hdL : (upd H d (.frz od (.dT kvs))) d = some (.frz od (.dT kvs)) := upd_same
  generalize upd H1 d (.frz od (.dT kvs)) = H2 at *
  refine ⟨_, rfl, d, od, rfl, .inr ⟨kvs, hL, for_it (walk_keysT (kvs := kvs)) (fun i σ H5 => ∃ (x3 x4 x5 x6 : Option V), σ = [some (.ref a), some (.ref d), some (.ref rk), x3, x4, x5, x6] ∧ Same (upd H d (.frz od (.dT kvs))) H5 ∧ H5 rk = some (.dT (RkK (rks (R.take i)) fun _ => 0)))
    ⟨_, _, _, _, rfl, sL, hrk2⟩ (fun i σ H5 _ ⟨_, _, _, _, _, y, _⟩ => y _ _ hdL) ?_ ?_⟩⟩
  · rintro i yv σ _ H5 hi ⟨x3, x4, x5, x6, rfl, s5, hr5⟩ ⟨rfl, key, v, q, hiv, rfl, hq⟩
    obtain ⟨x, hx, ek, _⟩ := al.2 i _ hiv
    have ek : key = k2 x.1.1 x.1.2 := ek
    subst ek
    have tkR : rks (R.take (i + 1)) = rks (R.take i) ++ [x.1] := by rw [List.take_add_one, hx]; unfold rks; rw [List.map_append]; rfl
    have nx : x.1 ∉ rks (R.take i) := fun z => by
      have e2 : (rks R).take (i + 1) = rks (R.take i) ++ [x.1] := by rw [← tkR]; unfold rks; rw [List.map_take]
      have n2 : (rks (R.take i) ++ [x.1]).Nodup := by rw [← e2]; exact nd.sublist (List.take_sublist _ _)
      exact (List.nodup_append.mp n2).2.2 _ z _ (List.mem_singleton.mpr rfl) rfl
    have ln : (RkK (rks (R.take i)) fun _ => 0).length ≤ R.length := by unfold RkK rks; rw [List.length_map, List.length_map, List.length_take]; omega
    refine ⟨_, rfl, _, rfl, rk, _, rfl, DPut.t (k := k2 x.1.1 x.1.2) hr5 hq (smallL (by omega)), ?_⟩
    refine ⟨_, _, _, _, rfl, s5.mut rk0, ?_⟩
    rw [upd_same, putK_new _ (rk_new nx), tkR]
    unfold RkK
    rw [List.map_append]
    rfl
  rintro σ H5 ⟨x3, x4, x5, x6, rfl, s5, hr5⟩
  rw [List.take_of_length_le (by have := al.1; omega)] at hr5
  refine ⟨s5 _ _ hdL, ?_⟩
  have s6 := unlock hd s5
  have hr6 : (upd H5 d (.dT kvs)) rk = some (.dT (RkK (rks R) fun _ => 0)) := by rw [upd_ne nrd]; exact hr5
  clear hr5 s5
  generalize upd H5 d (.dT kvs) = H6 at *
  refine ⟨fun m σ H7 => ∃ (f : Hd → Nat) (ch : Bool) (x3 x5 x6 : Option V), m = (if ch then R.length * R.length - tot (rks R) f + 1 else 0) ∧ σ = [some (.ref a), some (.ref d), some (.ref rk), x3, some (.bl ch), x5, x6] ∧ Same H H7 ∧ H7 rk = some (.dT (RkK (rks R) f)) ∧ ∀ x, Pth A x (f x),
    ⟨_, fun _ => 0, true, _, _, _, rfl, rfl, s6, hr6, fun x => .nil x⟩, ?_⟩
  rintro m σ H7 ⟨f, ch, x3', x5', x6', rfl, rfl, s7, hr7, pf⟩
  refine ⟨_, rfl, _, rfl, ?_⟩
  cases ch with
  | false =>
    refine if_f rfl ⟨_, rfl, .inr (.inr (.inl ⟨rfl, .inr ⟨_, hr7⟩⟩)), rk, _, rfl, rfl, hr7, fun p hp => ?_⟩
    have u8 := same_upd (o := DX.itemsO p rk) hp
    have sl := s7.trans u8
    refine ⟨p, rk, _, rfl, upd_same, u8 _ _ hr7, fun H9 l ts s9 hl hl9 tl hts => ?_⟩
    have ln : ts.length = R.length := by rw [tl]; unfold RkK; rw [List.length_map, Ll]
    refine ⟨l, _, (rks R).map fun h => itD h (f h), rfl, SqL.of hl9, ?_, ?_, ?_, fun p2 ys hp2 _ => ?_⟩
    · have gen : ∀ (L : List Hd) (ts : List Addr), ts.length = L.length → (∀ (j : Nat) (t : Addr) (k : List Key) (v : V), ts[j]? = some t → (RkK L f)[j]? = some (k, v) → ∃ b, H9 t = some (.tup [.ref b, v]) ∧ H9 b = some (.tup (k.map kV))) → RpAll H9 (L.map fun h => itD h (f h)) (ts.map V.ref) := by
        intro L
        induction L with
        | nil =>
          intro ts e _
          rw [List.eq_nil_of_length_eq_zero e]
          exact rfl
        | cons h L ih =>
          intro ts e g
          match ts, e with
          | t :: ts, e =>
            obtain ⟨b, h1, h2⟩ := g 0 t _ _ rfl rfl
            exact .cons ⟨t, _, rfl, h1, .cons ⟨b, _, rfl, h2, .cons rfl (.one rfl)⟩ (.one rfl)⟩ (ih ts (by simpa using e) fun j t' k v e1 e2 => g (j + 1) t' k v e1 e2)
      exact gen _ _ (by rw [ln, Ll]) hts
    · intro x hx y hy
      obtain ⟨h, _, rfl⟩ := List.mem_map.mp hx
      obtain ⟨h', _, rfl⟩ := List.mem_map.mp hy
      exact itD_alike ..
    · intro x hx
      obtain ⟨h, _, rfl⟩ := List.mem_map.mp hx
      exact ⟨⟨_, _, rfl⟩, itD_depth ..⟩
    · have u10 := same_upd (o := .lst ys) hp2
      refine ⟨p2, ys, rfl, .inl ⟨SqL.of upd_same, fun t ht => ?_⟩⟩
      exact k t _ ((((sl.trans s9).trans u10)).new ht)
  | true =>
    refine if_t rfl ⟨_, fun _ _ h => h, ?_⟩
    refine ⟨d, _, s7 _ _ hd, trivial, fun od => ?_⟩
    have sL7 : Same (upd H d (.frz od (.dT kvs))) (upd H7 d (.frz od (.dT kvs))) := same_lck s7
    have hH4 := hH.lck (v := .frz od (.dT kvs)) hN hd
    have rk0 : (upd H d (.frz od (.dT kvs))) rk = none := by rw [upd_ne nrd]; exact hrk
    have hdL : (upd H d (.frz od (.dT kvs))) d = some (.frz od (.dT kvs)) := upd_same
    have hrk8 : (upd H7 d (.frz od (.dT kvs))) rk = some (.dT (RkK (rks R) f)) := by rw [upd_ne nrd]; exact hr7
    have un : ∀ {H5 : Hp}, Same (upd H d (.frz od (.dT kvs))) H5 → Same H (upd H5 d (.dT kvs)) := fun s => unlock hd s
    generalize upd H7 d (.frz od (.dT kvs)) = H8 at *
    generalize upd H d (.frz od (.dT kvs)) = H4 at *
    have hH5 : ∀ {H5 : Hp}, Same H4 H5 → HdAt K (fun x => ∃ u, H4 x = some u) H5 a A := fun s => hH4.same s
    refine ⟨_, rfl, d, od, rfl, .inr ⟨kvs, sL7 _ _ hdL, for_it (walk_keysT (kvs := kvs)) (fun i σ H5 => ∃ (g : Hd → Nat) (ch : Bool) (x3 x5 x6 : Option V), σ = [some (.ref a), some (.ref d), some (.ref rk), x3, some (.bl ch), x5, x6] ∧ Same H4 H5 ∧ H5 rk = some (.dT (RkK (rks R) g)) ∧ (∀ x, Pth A x (g x)) ∧ tot (rks R) f ≤ tot (rks R) g ∧ (ch = true → tot (rks R) f < tot (rks R) g))
      ⟨f, false, _, _, _, rfl, sL7, hrk8, pf, Nat.le_refl _, fun e => by cases e⟩ (fun i σ H5 _ ⟨_, _, _, _, _, _, y, _⟩ => y _ _ hdL) ?_ ?_⟩⟩
    · rintro i yv σ _ H5 hi ⟨g, ch, x3, x5, x6, rfl, s5, hr5, pg, tg, cg⟩ ⟨rfl, key, v, q, hiv, rfl, hq⟩
      obtain ⟨x, hx, ek, _⟩ := al.2 i _ hiv
      have ek : key = k2 x.1.1 x.1.2 := ek
      subst ek
      have rq : Rp H5 (hdD x.1) (.ref q) := ⟨q, _, rfl, hq, .cons rfl (.one rfl)⟩
      have mx : x.1 ∈ rks R := List.mem_map.mpr ⟨x, List.mem_of_getElem? hx, rfl⟩
      obtain ⟨dx5, _, g5, _⟩ := hH5 s5
      refine ⟨_, rfl, a, dx5, _, rfl, g5, rfl, _, rfl, a, .ref q, x.1, A, _, rfl, hH5 s5, rq, fun l' ys H6 s6 hl' hl6 hys => ?_⟩
      have nlr : l' ≠ rk := by
        rcases hl' with ⟨u, e⟩ | ⟨e, _⟩
        · exact fun z => by rw [z, rk0] at e; cases e
        · exact fun z => by rw [z, hr5] at e; cases e
      refine ⟨l', rfl, ⟨_, SqL.of hl6⟩, for_it (walk_list (K := K) (a := l') (xs := ys)) (fun j σ H7 => ∃ (g : Hd → Nat) (ch : Bool) (x5 x6 : Option V), σ = [some (.ref a), some (.ref d), some (.ref rk), some (.ref q), some (.bl ch), x5, x6] ∧ Same H4 H7 ∧ Tups H6 H7 ∧ H7 l' = some (.lst ys) ∧ H7 rk = some (.dT (RkK (rks R) g)) ∧ (∀ x, Pth A x (g x)) ∧ tot (rks R) f ≤ tot (rks R) g ∧ (ch = true → tot (rks R) f < tot (rks R) g))
        ⟨g, ch, _, _, rfl, s5.trans s6, Tups.refl _, hl6, s6 _ _ hr5, pg, tg, cg⟩ (fun j σ H7 _ ⟨_, _, _, _, _, _, _, y, _⟩ => SqL.of y) ?_ ?_⟩
      · rintro j yv σ _ H7 hj ⟨g, ch, x5', x6', rfl, s7, t7, hl7, hr7, pg, tg, cg⟩ ⟨rfl, hyj⟩
        obtain ⟨dd, hdj, rdj⟩ := hys.getV hyj
        rw [List.getElem?_map] at hdj
        obtain ⟨m, hm, rfl⟩ := Option.map_eq_some_iff.mp hdj
        have rdm := Rp.at t7 _ _ rdj
        obtain ⟨mb, hb', ev, rfl, hmb, rhb, rev⟩ := mov_at rdm
        obtain ⟨hb2, eq2, hhb2⟩ := hd_at rhb
        cases eq2
        have mA : (x.1, m) ∈ A := mem_mvs.mp (List.mem_of_getElem? hm)
        have mR : m.1 ∈ rks R := cl _ mx _ mA
        have hq7 := t7 _ _ (s6 _ _ hq)
        have gM : DGet H7 rk (.ref hb') (some (.int ((g m.1 : Nat) : Int))) := by rw [← rk_val mR]; exact DGet.t hr7 hhb2
        have gX : DGet H7 rk (.ref q) (some (.int ((g x.1 : Nat) : Int))) := by rw [← rk_val mx]; exact DGet.t hr7 hq7
        refine ⟨_, rfl, _, rfl, mb, _, _, _, rfl, rfl, SqT.of hmb, rfl, rk, _, rfl, gM, _, rfl, mb, _, _, _, rfl, rfl, SqT.of hmb, rfl, .inr ⟨_, rfl, _, _, rfl, rfl, ?_⟩⟩
        have e : ((g m.1 : Nat) : Int) + (if m.2.1 = true then 1 else 0) = ((g m.1 + m.2.1.toNat : Nat) : Int) := by
          cases m.2.1 <;> simp
        show gName 6 (V.int (((g m.1 : Nat) : Int) + (if m.2.1 = true then 1 else 0))) _ _ _
        rw [e]
        refine ⟨_, rfl, _, rfl, _, rfl, rk, _, rfl, gX, _, _, rfl, rfl, _, rfl, ?_⟩
        have ln : (RkK (rks R) g).length ≤ R.length := by unfold RkK; rw [List.length_map]; omega
        by_cases c : g x.1 < g m.1 + m.2.1.toNat
        · refine if_t (decide_eq_true (by omega)) ⟨_, rfl, _, rfl, _, rfl, rk, _, rfl, DPut.t (k := k2 x.1.1 x.1.2) hr7 hq7 (smallL (by omega)), ?_⟩
          have tp : Tups H7 (upd H7 rk (.dT (putK (RkK (rks R) g) (k2 x.1.1 x.1.2) (.int ((g m.1 + m.2.1.toNat : Nat) : Int))))) := fun c xs e => by rw [upd_ne (fun z => by rw [z, hr7] at e; cases e)]; exact e
          obtain ⟨t1, t2⟩ := tot_mono (L := rks R) c
          have t2 := t2 mx
          exact ⟨updF g x.1 (g m.1 + m.2.1.toNat), true, _, _, rfl, s7.mut rk0, t7.trans tp, by rw [upd_ne nlr]; exact hl7, by rw [upd_same, rk_put _ mx], updF_le pg mA, by omega, fun _ => by omega⟩
        · exact if_f (decide_eq_false (by omega)) ⟨g, ch, _, _, rfl, s7, t7, hl7, hr7, pg, tg, cg⟩
      · rintro σ H7 ⟨g, ch, x5', x6', rfl, s7, t7, hl7, hr7, pg, tg, cg⟩
        exact ⟨g, ch, _, _, _, rfl, s7, hr7, pg, tg, cg⟩
    · rintro σ H5 ⟨g, ch, x3, x5, x6, rfl, s5, hr5, pg, tg, cg⟩
      refine ⟨s5 _ _ hdL, _, ?_, g, ch, _, _, _, rfl, rfl, un s5, by rw [upd_ne nrd]; exact hr5, pg⟩
      have bd : tot (rks R) g ≤ R.length * R.length := by
        have := tot_le (L := rks R) (f := g) (n := R.length) fun x m => (pg x).le cl no m
        rw [Ll] at this
        exact this
      show (if ch = true then _ else _) < _
      cases ch with
      | false => simp
      | true =>
        have := cg rfl
        simp only [if_true]
        omega
end
end Pr
/-! Rows.add: the stack is emptied. -/
namespace Pr
def prts (F : List Fd) (k : En) : List En := match F.find? (fun x => decide (x.1 = k)) with
  | some x => x.2.2
  | none => []
def miss (F : List Fd) (pl : List En) (k : En) : List En := (prts F k).filter fun e => decide (e ∉ pl)
/-- in n steps the stack is empty, and then G; the stack stays small -/
inductive Ends (F : List Fd) (B : Nat) (G : List En → Prop) : Nat → List En → List En → Prop
  | nil {pl : List En} : G pl → Ends F B G 0 pl []
  | has {n : Nat} {pl st : List En} {k : En} : st.length + 1 ≤ B → k ∈ keys F → k ∈ pl → Ends F B G n pl st → Ends F B G (n + 1) pl (st ++ [k])
  | more {n : Nat} {pl st : List En} {k : En} : (st ++ [k] ++ miss F pl k).length ≤ B → k ∈ keys F → k ∉ pl → miss F pl k ≠ [] → Ends F B G n pl (st ++ [k] ++ miss F pl k) → Ends F B G (n + 1) pl (st ++ [k])
  | put {n : Nat} {pl st : List En} {k : En} : st.length + 1 ≤ B → k ∈ keys F → k ∉ pl → miss F pl k = [] → Ends F B G n (pl ++ [k]) st → Ends F B G (n + 1) pl (st ++ [k])
theorem Ends.inv {F : List Fd} {B : Nat} {G : List En → Prop} {n : Nat} {pl st : List En} (e : Ends F B G n pl st) : (st = [] ∧ G pl) ∨ ∃ st' k n', st = st' ++ [k] ∧ n = n' + 1 ∧ st'.length + 1 ≤ B ∧ k ∈ keys F ∧
    ((k ∈ pl ∧ Ends F B G n' pl st') ∨ (k ∉ pl ∧ miss F pl k ≠ [] ∧ (st' ++ [k] ++ miss F pl k).length ≤ B ∧ Ends F B G n' pl (st' ++ [k] ++ miss F pl k)) ∨ (k ∉ pl ∧ miss F pl k = [] ∧ Ends F B G n' (pl ++ [k]) st')) := by
  cases e with
  | nil g => exact .inl ⟨rfl, g⟩
  | has b h1 h2 h3 => exact .inr ⟨_, _, _, rfl, rfl, b, h1, .inl ⟨h2, h3⟩⟩
  | more b h1 h2 h3 h4 => exact .inr ⟨_, _, _, rfl, rfl, by simp only [List.length_append, List.length_singleton] at b; omega, h1, .inr (.inl ⟨h2, h3, b, h4⟩)⟩
  | put b h1 h2 h3 h4 => exact .inr ⟨_, _, _, rfl, rfl, b, h1, .inr (.inr ⟨h2, h3, h4⟩)⟩
section
variable {M : List Stp} {μ : Nat → Bool} {F : List Fd} {B : Nat} {G : List En → Prop}
theorem prts_at (t : Tab M μ F) {i : Nat} {x : Fd} (h : F[i]? = some x) : prts F x.1 = x.2.2 := by
  unfold prts
  cases e : F.find? (fun y => decide (y.1 = x.1)) with
  | none =>
    have := List.find?_eq_none.mp e x (List.mem_of_getElem? h)
    exact absurd (decide_eq_true rfl) this
  | some y =>
    have hy : decide (y.1 = x.1) = true := List.find?_some (p := fun y : Fd => decide (y.1 = x.1)) e
    have hy := of_decide_eq_true hy
    obtain ⟨j, hj⟩ := List.mem_iff_getElem?.mp (List.mem_of_find?_eq_some e)
    have ij : j = i := by
      have e1 : (keys F)[j]? = some x.1 := by unfold keys; rw [List.getElem?_map, hj]; exact congrArg some hy
      have e2 : (keys F)[i]? = some x.1 := by unfold keys; rw [List.getElem?_map, h]; rfl
      exact (List.getElem?_inj (List.getElem?_eq_some_iff.mp e1).1 t.nd).mp (e1.trans e2.symm)
    subst ij
    rw [h] at hj
    cases hj
    rfl
/-- one key -/
def Goes (F : List Fd) (B : Nat) (G : List En → Prop) (p : Nat) : Prop := ∀ k ∈ keys (F.take p), ∀ pl st : List En, (∀ e ∈ pl, e ∈ keys F) → pl.Nodup → st.length + 2 * p + 1 ≤ B →
  (∀ pl' : List En, (∀ e ∈ pl, e ∈ pl') → (∀ e ∈ pl', e ∈ keys F) → pl'.Nodup → k ∈ pl' → ∃ n, Ends F B G n pl' st) → ∃ n, Ends F B G n pl (st ++ [k])
theorem goes_all {p : Nat} (g : Goes F B G p) : ∀ (ms : List En), (∀ e ∈ ms, e ∈ keys (F.take p)) → ∀ pl st : List En, (∀ e ∈ pl, e ∈ keys F) → pl.Nodup → st.length + ms.length + 2 * p ≤ B →
    (∀ pl' : List En, (∀ e ∈ pl, e ∈ pl') → (∀ e ∈ pl', e ∈ keys F) → pl'.Nodup → (∀ e ∈ ms, e ∈ pl') → ∃ n, Ends F B G n pl' st) → ∃ n, Ends F B G n pl (st ++ ms) := by
  intro ms
  induction h : ms.length generalizing ms with
  | zero =>
    intro hm pl st h1 h2 h3 c
    have : ms = [] := List.eq_nil_of_length_eq_zero h
    subst this
    rw [List.append_nil]
    exact c pl (fun _ m => m) h1 h2 fun e m => by simp at m
  | succ n ih =>
    intro hm pl st h1 h2 h3 c
    have ne : ms ≠ [] := fun z => by rw [z] at h; simp at h
    obtain ⟨ms', k, rfl⟩ : ∃ ms' k, ms = ms' ++ [k] := ⟨ms.dropLast, ms.getLast ne, (List.dropLast_concat_getLast ne).symm⟩
    rw [List.length_append, List.length_singleton] at h
    rw [← List.append_assoc]
    refine g k (hm k (by simp)) pl (st ++ ms') h1 h2 (by rw [List.length_append]; omega) fun pl' s1 s2 s3 kp => ?_
    refine ih ms' (by omega) (fun e m => hm e (List.mem_append_left _ m)) pl' st s2 s3 (by omega) fun pl2 q1 q2 q3 q4 => ?_
    exact c pl2 (fun e m => q1 e (s1 e m)) q2 q3 fun e m => by
      rcases List.mem_append.mp m with m | m
      · exact q4 e m
      · rw [show e = k by simpa using m]
        exact q1 k kp
theorem goes (t : Tab M μ F) : ∀ p, Goes F B G p
  | 0 => fun k m => by simp [keys] at m
  | p + 1 => by
    have ih := goes t p
    intro k m pl st h1 h2 h3 c
    by_cases kp : k ∈ keys (F.take p)
    · exact ih k kp pl st h1 h2 (by omega) c
    have kF : k ∈ keys F := take_keys m
    obtain ⟨x, hx, rfl⟩ := List.mem_map.mp m
    have hi : F[p]? = some x := by
      rw [List.take_add_one] at hx
      rcases List.mem_append.mp hx with z | z
      · exact absurd (List.mem_map.mpr ⟨x, z, rfl⟩) kp
      · cases e : F[p]? with
        | none => rw [e] at z; simp at z
        | some y =>
          rw [e] at z
          have : x = y := by simpa using z
          rw [this]
    have row := t.ok p x hi
    have pe := prts_at t hi
    have fin : ∀ pl' : List En, (∀ e ∈ pl, e ∈ pl') → (∀ e ∈ pl', e ∈ keys F) → pl'.Nodup → miss F pl' x.1 = [] → ∃ n, Ends F B G n pl' (st ++ [x.1]) := by
      intro pl' s1 s2 s3 mi
      by_cases xp : x.1 ∈ pl'
      · obtain ⟨n, e⟩ := c pl' s1 s2 s3 xp
        exact ⟨n + 1, .has (by omega) kF xp e⟩
      · obtain ⟨n, e⟩ := c (pl' ++ [x.1]) (fun e m => List.mem_append_left _ (s1 e m)) (fun e m => by
          rcases List.mem_append.mp m with m | m
          · exact s2 e m
          · rw [show e = x.1 by simpa using m]
            exact kF) (List.nodup_append.mpr ⟨s3, by simp, fun a ha b hb z => by
              have : b = x.1 := by simpa using hb
              rw [z, this] at ha
              exact xp ha⟩) (by simp)
        exact ⟨n + 1, .put (by omega) kF xp mi e⟩
    by_cases xp : x.1 ∈ pl
    · obtain ⟨n, e⟩ := c pl (fun _ m => m) h1 h2 xp
      exact ⟨n + 1, .has (by omega) kF xp e⟩
    by_cases mi : miss F pl x.1 = []
    · exact fin pl (fun _ m => m) h1 h2 mi
    have m2 : (miss F pl x.1).length ≤ 2 := by
      unfold miss
      rw [pe]
      exact Nat.le_trans (List.length_filter_le _ _) row.two
    have sub : ∀ e ∈ miss F pl x.1, e ∈ keys (F.take p) := fun e m => by
      unfold miss at m
      rw [pe] at m
      exact row.mem e (List.mem_filter.mp m).1
    obtain ⟨n, e⟩ := goes_all ih (miss F pl x.1) sub pl (st ++ [x.1]) h1 h2 (by rw [List.length_append, List.length_singleton]; omega) fun pl' s1 s2 s3 s4 => fin pl' s1 s2 s3 (by
      unfold miss
      rw [List.filter_eq_nil_iff]
      intro e m z
      have z : e ∉ pl' := of_decide_eq_true z
      by_cases ep : e ∈ pl
      · exact z (s1 e ep)
      · exact z (s4 e (List.mem_filter.mpr ⟨m, decide_eq_true ep⟩)))
    exact ⟨n + 1, .more (by simp only [List.length_append, List.length_singleton]; omega) kF xp mi e⟩
/-- one key, from an empty stack -/
theorem ends_one (t : Tab M μ F) {k : En} (hk : k ∈ keys F) {pl : List En} (h1 : ∀ e ∈ pl, e ∈ keys F) (h2 : pl.Nodup) : ∃ n, Ends F (2 * F.length + 1) (fun pl' => (∀ e ∈ pl, e ∈ pl') ∧ (∀ e ∈ pl', e ∈ keys F) ∧ pl'.Nodup ∧ k ∈ pl') n pl [k] := by
  have := goes (B := 2 * F.length + 1) (G := fun pl' => (∀ e ∈ pl, e ∈ pl') ∧ (∀ e ∈ pl', e ∈ keys F) ∧ pl'.Nodup ∧ k ∈ pl') t F.length k (by rw [List.take_length]; exact hk) pl [] h1 h2 (by simp) fun pl' a b c d => ⟨0, .nil ⟨a, b, c, d⟩⟩
  simpa using this
end
end Pr
/-! Rows: one row a key, behind its parts. -/
namespace Pr
open PySem PySem.Spec PyProof.Rows L2 RT
open C8 (Cal Met Mak pe_c pe_mk pe_mt pe_mt0)
theorem pe_dead {X : Cx} {e : Expr} : PE X e (fun _ _ _ => False) := ⟨fun pins s σ H Q I h => h.elim⟩
def PlQ (H : Hp) (e : En) (q : QE) : Prop := q.1 = lk e ∧ Rp H (entD e) (.ref q.2.1) ∧ ∃ i : Int, q.2.2 = .int i
theorem PlQ.at {H H' : Hp} (t : Tups H H') {e : En} {q : QE} (h : PlQ H e q) : PlQ H' e q := ⟨h.1, Rp.at t _ _ h.2.1, h.2.2⟩
theorem plq_keys {H : Hp} {pl : List En} {kvs : List QE} (h : All2 (PlQ H) pl kvs) : KeysAt H kvs := fun p hp => by
  obtain ⟨i, hi⟩ := List.mem_iff_getElem?.mp hp
  obtain ⟨x, _, h1, h2, _⟩ := h.2 i p hi
  rw [h1]
  exact key_ent h2
theorem plq_none {H : Hp} {pl : List En} {kvs : List QE} (h : All2 (PlQ H) pl kvs) {e : En} : valQ kvs (lk e) = none ↔ e ∉ pl := by
  unfold valQ
  rw [Option.map_eq_none_iff, List.find?_eq_none]
  constructor
  · intro n m
    obtain ⟨i, hi⟩ := List.mem_iff_getElem?.mp m
    obtain ⟨q, hq, h1, _⟩ := h.get hi
    exact n q (List.mem_of_getElem? hq) (by rw [h1]; exact decide_eq_true rfl)
  · intro n q hq z
    obtain ⟨i, hi⟩ := List.mem_iff_getElem?.mp hq
    obtain ⟨x, hx, h1, _⟩ := h.2 i q hi
    have z := of_decide_eq_true z
    rw [h1] at z
    rw [← lk_inj z] at n
    exact n (List.mem_of_getElem? hx)
theorem plq_at {H : Hp} {pl : List En} {kvs : List QE} (h : All2 (PlQ H) pl kvs) {e : En} (m : e ∈ pl) : ∃ i : Int, valQ kvs (lk e) = some (.int i) := by
  cases c : kvs.find? (fun q => decide (q.1 = lk e)) with
  | none =>
    have : valQ kvs (lk e) = none := by unfold valQ; rw [c]; rfl
    exact absurd m ((plq_none h).mp this)
  | some q =>
    obtain ⟨j, hj⟩ := List.mem_iff_getElem?.mp (List.mem_of_find?_eq_some c)
    obtain ⟨_, _, _, _, i, hi⟩ := h.2 j q hj
    exact ⟨i, by unfold valQ; rw [c]; exact congrArg some hi⟩
theorem row_at {H : Hp} {x : Fd} {v : V} (h : Rp H (rowD x) v) : ∃ (t p : Addr) (es : List V), v = .ref t ∧ H t = some (.tup [.int x.2.1, .ref p]) ∧ H p = some (.tup es) ∧ RpAll H (x.2.2.map entD) es := by
  obtain ⟨t, _, rfl, ht, v1, _, rfl, rfl, v2, _, rfl, ⟨p, es, rfl, hp, hes⟩, rfl⟩ := h
  exact ⟨t, p, es, rfl, ht, hp, hes⟩
section
variable (P : Program) (w : World)
structure RwAt (K : PySem.W.Frag) (H : Hp) (rw fd pd ld : Addr) (F : List Fd) (pl : List En) : Prop where
  ne : fd ≠ pd
  ex : ∃ (dx : Addr) (kvs pvs : List QE) (rvs : List V), H rw = some (.ins (He.ga K "Rows") dx [("found", .ref fd), ("places", .ref pd), ("rows", .ref ld)]) ∧ H fd = some (QO P w fd kvs) ∧ All2 (RowQ H) F kvs ∧
    H pd = some (QO P w pd pvs) ∧ All2 (PlQ H) pl pvs ∧ H ld = some (.lst rvs) ∧ rvs.length = pl.length
end
section
variable {P : Program} {w : World} {K : PySem.W.Frag} {mg : Str → Option Value} {base : Heap}
theorem RwAt.at {H H' : Hp} {rw fd pd ld : Addr} {F : List Fd} {pl : List En} (h : RwAt P w K H rw fd pd ld F pl) (t : Tups H H') (k : ∀ c u, H c = some u → c = rw ∨ c = fd ∨ c = pd ∨ c = ld → H' c = some u) : RwAt P w K H' rw fd pd ld F pl := by
  obtain ⟨ne, dx, kvs, pvs, rvs, r1, r2, r3, r4, r5, r6, r7⟩ := h
  exact ⟨ne, dx, kvs, pvs, rvs, k _ _ r1 (.inl rfl), k _ _ r2 (.inr (.inl rfl)), r3.imp fun _ _ z => z.at t, k _ _ r4 (.inr (.inr (.inl rfl))), r5.imp fun _ _ z => z.at t, k _ _ r6 (.inr (.inr (.inr rfl))), r7⟩
theorem RwAt.same {H H' : Hp} {rw fd pd ld : Addr} {F : List Fd} {pl : List En} (h : RwAt P w K H rw fd pd ld F pl) (s : Same H H') : RwAt P w K H' rw fd pd ld F pl := h.at s.tups fun c u e _ => s c u e
def sp_rows (P : Program) (w : World) (K : PySem.W.Frag) : Sp := fun vs H Q _ => ∃ (x dx fd : Addr) (F : List Fd) (kvs : List QE) (H0 : Hp), vs = [.ref x, .ref fd] ∧ Same H0 H ∧ H0 x = none ∧ H x = some (.ins (He.ga K "Rows") dx []) ∧ H0 fd = some (QO P w fd kvs) ∧ All2 (RowQ H0) F kvs ∧
  ∀ (pd ld : Addr) (H' : Hp), Same H0 H' → H0 pd = none → H0 ld = none → RwAt P w K H' x fd pd ld F [] → Q .non H'
abbrev n_Rows___init__ : List Str := ["self", "found"]
theorem sc_Rows___init__ : FnScope n_Rows___init__ ["self", "found"] (defScope s_Rows___init__) := ⟨rfl, rfl, rfl, by decide +kernel, rfl, by decide +kernel, by decide +kernel⟩
theorem ok_rows (T : Env K mg) : Mak P w K mg base 1 "Rows" (He.ga K "Rows") (sp_rows P w K) [] := by
  obtain ⟨fd, F⟩ := T.F_Rows___init__
  refine mak_by F T.k_Rows T.g_Rows (F.bindsN fun _ _ _ _ _ _ us hl => match us, hl with | [_, _], _ => rfl) .nil sc_Rows___init__ (fun vs H Q E h => ?_) (fun cdv A outer s H vs Q E hr h => ?_)
  · obtain ⟨x, dx, fd, F, kvs, H0, rfl, _⟩ := h
    rfl
  obtain ⟨x, dx, fd, F, kvs, H0, rfl, sm, hx0, hx, hfd, hrow, fin⟩ := h
  refine ⟨_, pss_cons (ps_fld (pv 0) (pv 1) rfl)
      (pss_cons (ps_fld (pv 0) (pe_qnewP (P := P) (w := w) rfl rfl) rfl)
      (pss_one (ps_fld (pv 0) (pe_lst pa_nil) rfl))), ?_⟩
  refine ⟨_, rfl, _, rfl, x, _, dx, _, rfl, hx, T.c_Rows, T.n_Rows_found, (by show 0 < 1000; decide), ?_⟩
  have s1 := sm.mut (o := .ins (He.ga K "Rows") dx (putF "found" (.ref fd) [])) hx0
  have hx1 : (upd H x (.ins (He.ga K "Rows") dx (putF "found" (.ref fd) []))) x = some (.ins (He.ga K "Rows") dx (putF "found" (.ref fd) [])) := upd_same
  generalize upd H x (.ins (He.ga K "Rows") dx (putF "found" (.ref fd) [])) = H1 at *
  refine fun pd hpd => ⟨_, rfl, x, _, dx, _, rfl, same_upd hpd _ _ hx1, T.c_Rows, T.n_Rows_places, (by show 1 < 1000; decide), ?_⟩
  have pd0 := s1.free hpd
  have npx : pd ≠ x := Ne.symm (ne_of_none hx1 hpd)
  have npf : fd ≠ pd := ne_of_none (s1 _ _ hfd) hpd
  have s2 := (s1.new (o := QO P w pd []) hpd).mut (o := .ins (He.ga K "Rows") dx (putF "places" (.ref pd) (putF "found" (.ref fd) []))) hx0
  have hx2 : (upd (upd H1 pd (QO P w pd [])) x (.ins (He.ga K "Rows") dx (putF "places" (.ref pd) (putF "found" (.ref fd) [])))) x = some (.ins (He.ga K "Rows") dx (putF "places" (.ref pd) (putF "found" (.ref fd) []))) := upd_same
  have hpd2 : (upd (upd H1 pd (QO P w pd [])) x (.ins (He.ga K "Rows") dx (putF "places" (.ref pd) (putF "found" (.ref fd) [])))) pd = some (QO P w pd []) := by rw [upd_ne npx]; exact upd_same
  generalize hH2 : upd (upd H1 pd (QO P w pd [])) x (.ins (He.ga K "Rows") dx (putF "places" (.ref pd) (putF "found" (.ref fd) []))) = H2 at *
  refine ⟨Nat.zero_le _, ?_⟩
  show ∀ ld, H2 ld = none → _
  refine fun ld hld => ⟨_, rfl, x, _, dx, _, rfl, same_upd hld _ _ hx2, T.c_Rows, T.n_Rows_rows, (by show 2 < 1000; decide), ?_⟩
  have ld0 := s2.free hld
  have nlx : ld ≠ x := Ne.symm (ne_of_none hx2 hld)
  have s3 := (s2.new (o := .lst []) hld).mut (o := .ins (He.ga K "Rows") dx [(Str.ofString "found", V.ref fd), (Str.ofString "places", V.ref pd), (Str.ofString "rows", V.ref ld)]) hx0
  refine fin pd ld _ s3 pd0 ld0 ⟨npf, dx, kvs, [], [], upd_same, s3 _ _ hfd, hrow.imp fun _ _ z => z.at s3.tups, by rw [upd_ne npx]; exact same_upd hld _ _ hpd2, .nil, by rw [upd_ne nlx]; exact upd_same, rfl⟩
def sp_missing (P : Program) (w : World) (K : PySem.W.Frag) : Sp := fun vs H Q _ => ∃ (rw fd pd ld kb : Addr) (k : En) (F : List Fd) (pl : List En) (M : List Stp) (μ : Nat → Bool), vs = [.ref rw, .ref kb] ∧ RwAt P w K H rw fd pd ld F pl ∧ Rp H (entD k) (.ref kb) ∧ k ∈ keys F ∧ Tab M μ F ∧
  ∀ (l : Addr) (ys : List V) (H' : Hp), Same H H' → H l = none → H' l = some (.lst ys) → RpAll H' ((miss F pl k).map entD) ys → Q (.ref l) H'
theorem miss_take {pl : List En} {es : List En} {j : Nat} {e : En} (h : es[j]? = some e) : (es.take (j + 1)).filter (fun e => decide (e ∉ pl)) = (es.take j).filter (fun e => decide (e ∉ pl)) ++ (if e ∉ pl then [e] else []) := by
  rw [List.take_add_one, h, List.filter_append]
  congr 1
  show ([e]).filter _ = _
  simp only [List.filter_cons, List.filter_nil, decide_eq_true_eq]
abbrev n_Rows_missing : List Str := ["self", "key", "parts", "part"]
theorem sc_Rows_missing : FnScope n_Rows_missing ["self", "key"] (defScope s_Rows_missing) := ⟨rfl, rfl, rfl, by decide +kernel, rfl, by decide +kernel, by decide +kernel⟩
theorem ok_missing (T : Env K mg) : Met P w K mg base 1 (He.ga K "Rows") "missing" (sp_missing P w K) [] := by
  obtain ⟨fd, F⟩ := T.F_Rows_missing
  refine met_by F T.c_Rows T.m_Rows_missing (F.bindsN fun _ _ _ _ _ _ us hl => match us, hl with | [_, _], _ => rfl) sc_Rows_missing (fun vs H Q E h => ?_) (fun cdv A outer s H vs Q E hr h => ?_)
  · obtain ⟨rw, fd, pd, ld, kb, k, F, pl, M, μ, rfl, _⟩ := h
    rfl
  obtain ⟨rw, fd, pd, ld, kb, k, F, pl, M, μ, rfl, hR, hk, mk, tab, fin⟩ := h
  obtain ⟨ne, dx, kvs, pvs, rvs, r1, r2, r3, r4, r5, r6, r7⟩ := id hR
  obtain ⟨x, hx, rfl⟩ := List.mem_map.mp mk
  obtain ⟨i, hi⟩ := List.mem_iff_getElem?.mp hx
  obtain ⟨v, hv, rv⟩ := valQ_at r3 tab.nd hi
  obtain ⟨t, p, es, rfl, ht, hp, hes⟩ := row_at rv
  have em : miss F pl x.1 = x.2.2.filter fun e => decide (e ∉ pl) := by unfold miss; rw [prts_at tab hi]
  have row := tab.ok i x hi
  refine ⟨_, pss_cons (ps_set (i := 2) sc_Rows_missing.nd rfl (Or.inl rfl) (pe_ix ix_tup (pe_qgetP (P := P) (w := w) rfl rfl (hu_of hr) (pe_fld (pv 0) rfl) (pv 1) (fun _ _ => rfl)) pe_int (fun _ _ => rfl)))
      (pss_one (ps_ret (pe_lc (own := [("part", 3)]) (g := gName 3) (by rfl) sc_Rows_missing.nd (pi_tup (pv 2)) (blkOk_by (own := [("part", 3)]) (N := n_Rows_missing) (sc := defScope s_Rows_missing) (by decide +kernel)) (fun _ _ _ _ _ => (pg_name (i := 3) sc_Rows_missing.nd rfl (Or.inl rfl))) (fun _ _ _ _ _ => (pts_one (PW.pt (pw_and (pt_cmpR op_notN (pe_ix (r := rIxT K) ix_tup (pe_qgetP (P := P) (w := w) rfl rfl (hu_of hr) (pe_fldK (K := K) rfl (pv 0) rfl) (pv 3) (fun _ _ => rfl)) pe_int (fun _ _ => rfl)) pe_non (nomark _)) (pw_and1 (pt_cmp (pc_qnotinP (P := P) (w := w) rfl rfl (hu_of hr) (pv 3) (pe_fldK (K := K) rfl (pv 0) rfl)))))))) (fun _ _ _ _ _ => (pv 3))))), ?_⟩
  refine ⟨_, rfl, rw, _, dx, _, _, rfl, r1, T.c_Rows, T.n_Rows_found, rfl, _, rfl, fd, kb, kvs, lk x.1, _, rfl, r2, rowq_keys r3, rfl, key_ent hk, hv, t, _, _, _, rfl, rfl, SqT.of ht, rfl, ?_⟩
  refine ⟨_, rfl, p, rfl, ⟨_, SqT.of hp⟩, fun D hD => ?_⟩
  have el : es.length = x.2.2.length := by rw [hes.len, List.length_map]
  refine lc_it (walk_tup (K := K) (a := p) (xs := es)) (fun j H3 => Same H H3 ∧ ∃ ys, H3 D = some (.lst ys) ∧ RpAll H3 (((x.2.2.take j).filter fun e => decide (e ∉ pl)).map entD) ys) ⟨same_upd hD, [], upd_same, rfl⟩ (fun j H3 _ z => SqT.of (z.1 _ _ hp)) ?_ ?_
  · rintro j y _ H3 hj ⟨sm3, ys, hD3, hys⟩ ⟨rfl, hyj⟩
    obtain ⟨d, hdj, rdj⟩ := hes.getV hyj
    rw [List.getElem?_map] at hdj
    obtain ⟨e, hej, rfl⟩ := Option.map_eq_some_iff.mp hdj
    have eF : e ∈ keys F := take_keys (row.mem e (List.mem_of_getElem? hej))
    obtain ⟨b, rfl, hb⟩ := ent_at rdj
    have rdj3 := Rp.at sm3.tups _ _ rdj
    have r33 := r3.imp fun _ _ z => z.at sm3.tups
    have r53 := r5.imp fun _ _ z => z.at sm3.tups
    obtain ⟨x', hx', ee⟩ := List.mem_map.mp eF
    subst ee
    obtain ⟨i', hi'⟩ := List.mem_iff_getElem?.mp hx'
    obtain ⟨v', hv', rv'⟩ := valQ_at r33 tab.nd hi'
    obtain ⟨t', p', es', rfl, ht', _⟩ := row_at rv'
    refine ⟨rfl, ?_⟩
    refine ⟨_, rfl, rw, _, dx, _, _, rfl, sm3 _ _ r1, T.c_Rows, T.n_Rows_found, rfl, _, rfl, fd, b, kvs, lk x'.1, _, rfl, sm3 _ _ r2, rowq_keys r33, rfl, key_ent rdj3, hv', t', _, _, _, rfl, rfl, SqT.of ht', rfl, ?_⟩
    refine ⟨rfl, _, rfl, ite2 (fun _ => ?_) (fun c => absurd (by simp) c)⟩
    refine ⟨_, rfl, _, rfl, rw, _, dx, _, _, rfl, sm3 _ _ r1, T.c_Rows, T.n_Rows_places, rfl, pd, b, pvs, lk x'.1, rfl, sm3 _ _ r4, plq_keys r53, rfl, key_ent rdj3, _, rfl, ?_⟩
    have yl : ys.length ≤ 2 := by
      rw [hys.len, List.length_map]
      have h1 := List.length_filter_le (fun e => decide (e ∉ pl)) (x.2.2.take j)
      have h2 := row.two
      rw [List.length_take] at h1
      omega
    refine ite2 (fun c => ?_) (fun c => ?_)
    · have n : x'.1 ∉ pl := (plq_none r53).mp (by simpa using c)
      refine ⟨_, rfl, _, hD3, smallL (by omega), sm3.mut hD, ys ++ [.ref b], upd_same, ?_⟩
      rw [miss_take hej, if_pos n, List.map_append]
      have tp : Tups H3 (upd H3 D (.lst (ys ++ [.ref b]))) := tups_lst hD3
      exact (RpAll.at tp _ _ hys).snoc (Rp.at tp _ _ rdj3)
    · have n : ¬ x'.1 ∉ pl := fun z => c (by rw [(plq_none r53).mpr z]; rfl)
      refine ⟨sm3, ys, hD3, ?_⟩
      rw [miss_take hej, if_neg n, List.append_nil]
      exact hys
  · rintro H3 ⟨sm3, ys, hD3, hys⟩
    rw [el, List.take_length, ← em] at hys
    exact fin D ys H3 sm3 hD hD3 hys
theorem RpAll.last {H : Hp} : ∀ {ds : List PyData} {d : PyData} {vs : List V}, RpAll H (ds ++ [d]) vs → ∃ vs' vx, vs = vs' ++ [vx] ∧ RpAll H ds vs' ∧ Rp H d vx
  | [], d, vs, h => by
    obtain ⟨v, r, rfl, h1, h2⟩ := h
    cases (show r = [] from h2)
    exact ⟨[], v, rfl, rfl, h1⟩
  | a :: ds, d, vs, h => by
    obtain ⟨v, r, rfl, h1, h2⟩ := h
    obtain ⟨vs', vx, rfl, h3, h4⟩ := RpAll.last h2
    exact ⟨v :: vs', vx, rfl, ⟨v, vs', rfl, h1, h3⟩, h4⟩
def sp_add (P : Program) (w : World) (K : PySem.W.Frag) : Sp := fun vs H Q _ => ∃ (rw fd pd ld kb : Addr) (k : En) (F : List Fd) (pl : List En) (M : List Stp) (μ : Nat → Bool), vs = [.ref rw, .ref kb, .bl false] ∧ RwAt P w K H rw fd pd ld F pl ∧ Rp H (entD k) (.ref kb) ∧ k ∈ keys F ∧ (∀ e ∈ pl, e ∈ keys F) ∧ pl.Nodup ∧ Tab M μ F ∧ F.length ≤ 1000 ∧
  ∀ (pl' : List En) (H' : Hp), SameB (fun x => x = pd ∨ x = ld) H H' → RwAt P w K H' rw fd pd ld F pl' → (∀ e ∈ pl, e ∈ pl') → (∀ e ∈ pl', e ∈ keys F) → pl'.Nodup → k ∈ pl' → Q .non H'
abbrev n_Rows_add : List Str := ["self", "key", "with_items", "pending", "last", "step", "parts", "before", "written", "part"]
theorem sc_Rows_add : FnScope n_Rows_add ["self", "key", "with_items"] (defScope s_Rows_add) := ⟨rfl, rfl, rfl, by decide +kernel, rfl, by decide +kernel, by decide +kernel⟩
theorem ok_add (T : Env K mg) (c_Rows_missing : Met P w K mg base 1 (He.ga K "Rows") "missing" (sp_missing P w K) []) : Met P w K mg base 2 (He.ga K "Rows") "add" (sp_add P w K) [] := by
  obtain ⟨fd, F⟩ := T.F_Rows_add
  refine met_by F T.c_Rows T.m_Rows_add (F.bindsN fun _ _ _ _ _ _ us hl => match us, hl with | [_, _, _], _ => rfl) sc_Rows_add (fun vs H Q E h => ?_) (fun cdv A outer s H vs Q E hr h => ?_)
  · obtain ⟨rw, fd, pd, ld, kb, k, F, pl, M, μ, rfl, _⟩ := h
    rfl
  obtain ⟨rw, fd, pd, ld, kb, k, F, pl, M, μ, rfl, hR, hk, mk, sub, nd, tab, F1000, fin⟩ := h
  refine ⟨_, pss_cons (ps_set (i := 3) sc_Rows_add.nd rfl (Or.inl rfl) (pe_lst (pa_cons (pv 1) pa_nil)))
      (pss_one (ps_while PassesOwn.never (pt_cmpR op_gt (pe_callB call_len_seq (by rfl) T.f_len (by decide +kernel) (pa_cons (pv 3) pa_nil)) pe_int (nomark _))
        (pss_cons (ps_set (i := 4) sc_Rows_add.nd rfl (Or.inl rfl) (pe_ix ix_list (pv 3) (pe_un un_neg pe_int) (fun _ _ => rfl)))
        (pss_cons (ps_asg (pe_qgetP (P := P) (w := w) rfl rfl (hu_of hr) (pe_fld (pv 0) rfl) (pv 4) (fun _ _ => rfl)) (pg_tup (by rfl) (pgs_cons (pg_name (i := 5) sc_Rows_add.nd rfl (Or.inl rfl)) (pgs_cons (pg_name (i := 6) sc_Rows_add.nd rfl (Or.inl rfl)) pgs_nil))))
        (pss_cons (ps_set (i := 7) sc_Rows_add.nd rfl (Or.inl rfl) (pe_mt c_Rows_missing hr (by omega) (pv 0) (pa_cons (pv 4) pa_nil)))
        (pss_one (ps_if (PW.pt (pw_or (pt_cmpR op_isN (pv 5) pe_non (nomark _)) (pw_or1 (pt_cmp (pc_qinP (P := P) (w := w) rfl rfl (hu_of hr) (pv 4) (pe_fld (pv 0) rfl))))))
          (pss_one (ps_expr (pe_bm0 PySem.F.plainAttrs_list PySem.F.slot_list_pop PySem.F.type_list_pop mt_pop (pv 3))))
          (pss_one (ps_if (pt_cmpR op_gt (pe_callB call_len_seq (by rfl) T.f_len (by decide +kernel) (pa_cons (pv 7) pa_nil)) pe_int (nomark _))
            (pss_one (ps_expr (pe_bm PySem.F.plainAttrs_list PySem.F.slot_list_extend PySem.F.type_list_extend mt_extend (pv 3) (pa_cons (pv 7) pa_nil))))
            (C8.pss_cut (ps_if (pt_val (pv 2))
              (pss_one (ps_set (i := 8) sc_Rows_add.nd rfl (Or.inl rfl) (pe_callTy call_tuple_of (by rfl) T.f_tuple (by decide +kernel) (pa_cons (pe_lc (own := [("part", 9)]) (g := gName 9) (by rfl) sc_Rows_add.nd (pi_tup (pv 6)) (blkOk_by (own := [("part", 9)]) (N := n_Rows_add) (sc := defScope s_Rows_add) (by decide +kernel)) (fun _ _ _ _ _ => (pg_name (i := 9) sc_Rows_add.nd rfl (Or.inl rfl))) (fun _ _ _ _ _ => pts_nil) (fun _ _ _ _ _ => pe_dead)) pa_nil))))
              (pss_one (ps_set (i := 8) sc_Rows_add.nd rfl (Or.inl rfl) (pe_callTy call_tuple_of (by rfl) T.f_tuple (by decide +kernel) (pa_cons (pe_lc (own := [("part", 9)]) (g := gName 9) (by rfl) sc_Rows_add.nd (pi_tup (pv 6)) (blkOk_by (own := [("part", 9)]) (N := n_Rows_add) (sc := defScope s_Rows_add) (by decide +kernel)) (fun _ _ _ _ _ => (pg_name (i := 9) sc_Rows_add.nd rfl (Or.inl rfl))) (fun _ _ _ _ _ => pts_nil) (fun _ _ _ _ _ => (pe_qgetP (P := P) (w := w) rfl rfl (hu_of hr) (pe_fldK (K := K) rfl (pv 0) rfl) (pv 9) (fun _ _ => rfl)))) pa_nil)))))
            (pss_cons (ps_qputP (P := P) (w := w) rfl rfl (hu_of hr) (pe_fld (pv 0) rfl) (pv 4) (pe_callB call_len_seq (by rfl) T.f_len (by decide +kernel) (pa_cons (pe_fld (pv 0) rfl) pa_nil)) rfl)
            (pss_cons (ps_expr (pe_bm PySem.F.plainAttrs_list PySem.F.slot_list_append PySem.F.type_list_append mt_append (pe_fld (pv 0) rfl) (pa_cons (pe_tup (pa_cons (pv 5) (pa_cons (pv 8) pa_nil))) pa_nil)))
            (pss_one (ps_expr (pe_bm0 PySem.F.plainAttrs_list PySem.F.slot_list_pop PySem.F.type_list_pop mt_pop (pv 3)))))))))))))))), ?_⟩
  obtain ⟨n0, e0⟩ := ends_one tab mk sub nd
  obtain ⟨nfp, dx, kvs, pvs0, rvs0, q1, q2, q3, q4, q5, q6, q7⟩ := id hR
  refine ⟨_, rfl, (by show 1 ≤ sizeLine; decide), fun pn hpn => ?_⟩
  have u1 := same_upd (o := .lst [V.ref kb]) hpn
  have hpn1 : (upd H pn (.lst [V.ref kb])) pn = some (.lst [V.ref kb]) := upd_same
  have n1 : rw ≠ pn := ne_of_none q1 hpn
  have n2 : fd ≠ pn := ne_of_none q2 hpn
  have n3 : pd ≠ pn := ne_of_none q4 hpn
  have n4 : ld ≠ pn := ne_of_none q6 hpn
  have n5 : pd ≠ ld := fun z => by rw [z, q6] at q4; cases q4
  have n6 : fd ≠ ld := fun z => by rw [z, q6] at q2; cases q2
  have n7 : rw ≠ pd := fun z => by rw [z, q4] at q1; cases q1
  have n8 : rw ≠ ld := fun z => by rw [z, q6] at q1; cases q1
  have hR1 := hR.same u1
  have rk1 := Rp.at u1.tups _ _ hk
  have sb1 : SameB (fun x => x = pd ∨ x = ld) H (upd H pn (.lst [V.ref kb])) := u1.b
  generalize upd H pn (.lst [V.ref kb]) = H1 at *
  refine ⟨fun m σ H2 => ∃ (pl2 st : List En) (ys : List V) (x4 x5 x6 x7 x8 x9 : Option V), σ = [some (.ref rw), some (.ref kb), some (.bl false), some (.ref pn), x4, x5, x6, x7, x8, x9] ∧ SameB (fun x => x = pd ∨ x = ld) H H2 ∧ RwAt P w K H2 rw fd pd ld F pl2 ∧ H2 pn = some (.lst ys) ∧ RpAll H2 (st.map entD) ys ∧
      pl2.Nodup ∧ (∀ e ∈ pl2, e ∈ keys F) ∧ Ends F (2 * F.length + 1) (fun pl' => (∀ e ∈ pl, e ∈ pl') ∧ (∀ e ∈ pl', e ∈ keys F) ∧ pl'.Nodup ∧ k ∈ pl') m pl2 st,
    ⟨n0, pl, [k], [.ref kb], _, _, _, _, _, _, rfl, sb1, hR1, hpn1, .one rk1, nd, sub, e0⟩, ?_⟩
  rintro m σ H2 ⟨pl2, st, ys, x4, x5, x6, x7, x8, x9, rfl, sb2, hR2, hpn2, hys, nd2, sub2, en⟩
  have yl : ys.length = st.length := by rw [hys.len, List.length_map]
  refine ⟨_, rfl, pn, _, rfl, .inl (SqL.of hpn2), _, _, rfl, rfl, _, rfl, ?_⟩
  rcases en.inv with ⟨rfl, g1, g2, g3, g4⟩ | ⟨st', kk, n', rfl, rfl, bd, kF, cs⟩
  · have y0 : ys = [] := List.eq_nil_of_length_eq_zero yl
    subst y0
    exact if_f (by decide +kernel) (fin pl2 H2 sb2 hR2 g1 g2 g3 g4)
  rw [List.map_append] at hys
  obtain ⟨ys', vx, rfl, hys', rvx⟩ := hys.last
  obtain ⟨b, rfl, hb⟩ := ent_at rvx
  rw [List.length_append, List.length_append, List.length_singleton, List.length_singleton] at yl
  have yl' : ys'.length = st'.length := by omega
  refine if_t (decide_eq_true (by rw [List.length_append, List.length_singleton]; omega)) ⟨_, fun _ _ h => h, ?_⟩
  obtain ⟨_, dx2, kvs2, pvs, rvs, r1, r2, r3, r4, r5, r6, r7⟩ := id hR2
  have F2 : pl2.length ≤ F.length := by
    have := List.Nodup.length_le_of_subset nd2 (l₂ := keys F) sub2
    unfold keys at this
    rwa [List.length_map] at this
  obtain ⟨x, hx, rfl⟩ := List.mem_map.mp kF
  obtain ⟨i, hi⟩ := List.mem_iff_getElem?.mp hx
  obtain ⟨v, hv, rv⟩ := valQ_at r3 tab.nd hi
  obtain ⟨t, p, es, rfl, ht, hp, hes⟩ := row_at rv
  have row := tab.ok i x hi
  refine ⟨_, rfl, _, rfl, pn, _, _, .ref b, rfl, rfl, SqL.of hpn2, atI_last _ _, ?_⟩
  refine ⟨_, rfl, rw, _, dx2, _, _, rfl, r1, T.c_Rows, T.n_Rows_found, rfl, _, rfl, fd, b, kvs2, lk x.1, _, rfl, r2, rowq_keys r3, rfl, key_ent rvx, hv, ?_⟩
  refine ⟨t, _, rfl, SqT.of ht, rfl, _, _, rfl, _, _, rfl, rfl, ?_⟩
  refine ⟨_, rfl, rw, dx2, _, rfl, r1, rfl, _, rfl, rw, fd, pd, ld, b, x.1, F, pl2, M, μ, rfl, hR2, rvx, kF, tab, fun l zs H3 s3 hl0 hl3 hzs => ?_⟩
  have sb3 := sb2.trans s3.b
  have hR3 := hR2.same s3
  have hpn3 := s3 _ _ hpn2
  have hys3 := RpAll.at s3.tups _ _ hys'
  have rvx3 := Rp.at s3.tups _ _ rvx
  have hes3 := RpAll.at s3.tups _ _ hes
  have hp3 := s3 _ _ hp
  have r13 := s3 _ _ r1
  have r23 := s3 _ _ r2
  have r33 := r3.imp fun _ _ z => z.at s3.tups
  have r43 := s3 _ _ r4
  have r53 := r5.imp fun _ _ z => z.at s3.tups
  have r63 := s3 _ _ r6
  have zl : zs.length = (miss F pl2 x.1).length := by rw [hzs.len, List.length_map]
  have dl' : (ys' ++ [V.ref b]).dropLast = ys' := by simp
  have pop : ∀ (H8 : Hp) (pl3 : List En) (x5 x6 x7 x8 x9 : Option V), SameB (fun x => x = pd ∨ x = ld) H H8 → RwAt P w K H8 rw fd pd ld F pl3 → H8 pn = some (.lst (ys' ++ [.ref b])) → RpAll H8 (st'.map entD) ys' → SameB (fun x => x = pd ∨ x = ld) H (upd H8 pn (.lst ys')) ∧ RwAt P w K (upd H8 pn (.lst ys')) rw fd pd ld F pl3 ∧ (upd H8 pn (.lst ys')) pn = some (.lst ys') ∧ RpAll (upd H8 pn (.lst ys')) (st'.map entD) ys' := fun H8 pl3 _ _ _ _ _ a1 a2 a3 a4 => by
    have tp : Tups H8 (upd H8 pn (.lst ys')) := tups_lst a3
    refine ⟨a1.none hpn, a2.at tp fun c u e z => ?_, upd_same, RpAll.at tp _ _ a4⟩
    rw [upd_ne]
    · exact e
    · rcases z with rfl | rfl | rfl | rfl
      · exact n1
      · exact n2
      · exact n3
      · exact n4
  refine ⟨_, rfl, rfl, _, rfl, ite2 (fun c => absurd c (by simp)) fun _ => ?_⟩
  refine ⟨_, rfl, _, rfl, rw, _, dx2, _, _, rfl, r13, T.c_Rows, T.n_Rows_places, rfl, pd, b, pvs, lk x.1, rfl, r43, plq_keys r53, rfl, key_ent rvx3, _, rfl, ?_⟩
  rcases cs with ⟨kp, en'⟩ | ⟨kp, mne, bd2, en'⟩ | ⟨kp, m0, en'⟩
  · -- it is there
    obtain ⟨j, hj⟩ := plq_at r53 kp
    refine if_t (by rw [hj]; rfl) ?_
    refine ⟨_, rfl, .inl ⟨rfl, _, SqL.of hpn3⟩, pn, _, .ref b, rfl, rfl, hpn3, by simp, ?_⟩
    rw [dl']
    obtain ⟨a1, a2, a3, a4⟩ := pop H3 pl2 none none none none none sb3 hR3 hpn3 hys3
    exact ⟨n', Nat.lt_succ_self _, pl2, st', ys', _, _, _, _, _, _, rfl, a1, a2, a3, a4, nd2, sub2, en'⟩
  · -- parts lack
    refine if_f (by rw [(plq_none r53).mpr kp]; rfl) ?_
    have zp : 0 < zs.length := by
      rw [zl]
      exact List.length_pos_iff.mpr mne
    refine ⟨_, rfl, l, _, rfl, .inl (SqL.of hl3), _, _, rfl, rfl, _, rfl, if_t (decide_eq_true (by omega)) ?_⟩
    have bd3 : (ys' ++ [V.ref b]).length + zs.length ≤ 100000 := by
      rw [List.length_append, List.length_append, List.length_singleton] at bd2
      rw [List.length_append, List.length_singleton]
      omega
    refine ⟨_, rfl, .inl ⟨rfl, _, SqL.of hpn3⟩, _, rfl, pn, l, _, _, rfl, rfl, hpn3, hl3, small bd3, ?_⟩
    have tp : Tups H3 (upd H3 pn (.lst (ys' ++ [V.ref b] ++ zs))) := tups_lst hpn3
    refine ⟨n', Nat.lt_succ_self _, pl2, _, ys' ++ [V.ref b] ++ zs, _, _, _, _, _, _, rfl, sb3.none hpn, hR3.at tp fun c u e z => ?_, upd_same, ?_, nd2, sub2, en'⟩
    · rw [upd_ne]
      · exact e
      · rcases z with rfl | rfl | rfl | rfl
        · exact n1
        · exact n2
        · exact n3
        · exact n4
    · rw [List.map_append, List.map_append]
      exact ((RpAll.at tp _ _ hys3).snoc (Rp.at tp _ _ rvx3)).app (RpAll.at tp _ _ hzs)
  · -- its row is laid
    refine if_f (by rw [(plq_none r53).mpr kp]; rfl) ?_
    have z0 : zs.length = 0 := by rw [zl, m0]; rfl
    refine ⟨_, rfl, l, _, rfl, .inl (SqL.of hl3), _, _, rfl, rfl, _, rfl, if_f (decide_eq_false (by omega)) ?_⟩
    have allp : ∀ e ∈ x.2.2, e ∈ pl2 := fun e m => by
      refine Classical.byContradiction fun z => ?_
      have : e ∈ miss F pl2 x.1 := by
        unfold miss
        rw [prts_at tab hi]
        exact List.mem_filter.mpr ⟨m, decide_eq_true z⟩
      rw [m0] at this
      simp at this
    refine ⟨fun σ' H' => ∃ (wt x9 : Option V), σ' = [some (.ref rw), some (.ref kb), some (.bl false), some (.ref pn), some (.ref b), some (.int x.2.1), some (.ref p), some (.ref l), wt, x9] ∧ (∃ v, wt = some v) ∧ Same H3 H', ⟨_, rfl, _, rfl, if_f rfl ?_⟩, ?_⟩
    · have el : es.length = x.2.2.length := by rw [hes.len, List.length_map]
      refine ⟨_, rfl, p, rfl, ⟨_, SqT.of hp3⟩, fun D hD => ?_⟩
      refine lc_it (walk_tup (K := K) (a := p) (xs := es)) (fun j H4 => Same H3 H4 ∧ ∃ ws, H4 D = some (.lst ws) ∧ ws.length = j) ⟨same_upd hD, [], upd_same, rfl⟩ (fun j H4 _ z => SqT.of (z.1 _ _ hp3)) ?_ ?_
      · rintro j y _ H4 hj ⟨sm4, ws, hD4, hws⟩ ⟨rfl, hyj⟩
        obtain ⟨d, hdj, rdj⟩ := hes3.getV hyj
        rw [List.getElem?_map] at hdj
        obtain ⟨e, hej, rfl⟩ := Option.map_eq_some_iff.mp hdj
        obtain ⟨b', rfl, hb'⟩ := ent_at rdj
        have r54 := r53.imp fun _ _ z => z.at sm4.tups
        obtain ⟨jj, hjj⟩ := plq_at r54 (allp e (List.mem_of_getElem? hej))
        refine ⟨rfl, ?_⟩
        dsimp only [tYes]
        refine iteT ?_
        refine ⟨_, rfl, rw, _, dx2, _, _, rfl, sm4 _ _ r13, T.c_Rows, T.n_Rows_places, rfl, _, rfl, pd, b', pvs, lk e, _, rfl, sm4 _ _ r43, plq_keys r54, rfl, key_ent (Rp.at sm4.tups _ _ rdj), hjj, _, hD4, smallL (by have := row.two; omega), sm4.mut hD, _, upd_same, ?_⟩
        rw [List.length_append, List.length_singleton, hws]
      · rintro H4 ⟨sm4, ws, hD4, hws⟩
        exact ⟨D, _, rfl, .inl ⟨SqL.of hD4, fun r hr2 => ⟨_, _, rfl, ⟨_, rfl⟩, sm4.new hr2⟩⟩⟩
    rintro σ' H4 ⟨_, x9', rfl, ⟨wv, rfl⟩, s4⟩
    have sb4 := sb3.trans s4.b
    have hpn4 := s4 _ _ hpn3
    have hys4 := RpAll.at s4.tups _ _ hys3
    have rvx4 := Rp.at s4.tups _ _ rvx3
    have r14 := s4 _ _ r13
    have r24 := s4 _ _ r23
    have r34 := r33.imp fun _ _ z => z.at s4.tups
    have r44 := s4 _ _ r43
    have r54 := r53.imp fun _ _ z => z.at s4.tups
    have r64 := s4 _ _ r63
    have pl3 : pvs.length = pl2.length := r5.1
    refine ⟨_, rfl, rw, _, dx2, _, _, rfl, r14, T.c_Rows, T.n_Rows_rows, rfl, ld, _, rfl, .inl (SqL.of r64), _, rfl, rw, _, dx2, _, _, rfl, r14, T.c_Rows, T.n_Rows_places, rfl, _, rfl, pd, b, pvs, lk x.1, rfl, r44, plq_keys r54, rfl, key_ent rvx4, (plq_none r54).mpr kp, smallL (by omega), ?_⟩
    have t5 : Tups H4 (upd H4 pd (QO P w pd (pvs ++ [(lk x.1, b, V.int ((rvs.length : Nat) : Int))]))) := (kps_q r44).tups
    have sb5 := SameB.upd (o := QO P w pd (pvs ++ [(lk x.1, b, V.int ((rvs.length : Nat) : Int))])) sb4 (.inl rfl)
    have r15 : (upd H4 pd (QO P w pd (pvs ++ [(lk x.1, b, V.int ((rvs.length : Nat) : Int))]))) rw = _ := (upd_ne n7).trans r14
    have r25 : (upd H4 pd (QO P w pd (pvs ++ [(lk x.1, b, V.int ((rvs.length : Nat) : Int))]))) fd = _ := (upd_ne nfp).trans r24
    have r45 : (upd H4 pd (QO P w pd (pvs ++ [(lk x.1, b, V.int ((rvs.length : Nat) : Int))]))) pd = _ := upd_same
    have r65 : (upd H4 pd (QO P w pd (pvs ++ [(lk x.1, b, V.int ((rvs.length : Nat) : Int))]))) ld = _ := (upd_ne (Ne.symm n5)).trans r64
    have hpn5 : (upd H4 pd (QO P w pd (pvs ++ [(lk x.1, b, V.int ((rvs.length : Nat) : Int))]))) pn = _ := (upd_ne (Ne.symm n3)).trans hpn4
    have r35 := r34.imp fun _ _ z => z.at t5
    have r55 := (r54.imp fun _ _ z => z.at t5).snoc (d := x.1) (v := (lk x.1, b, V.int ((rvs.length : Nat) : Int))) ⟨rfl, Rp.at t5 _ _ rvx4, _, rfl⟩
    have hys5 := RpAll.at t5 _ _ hys4
    generalize upd H4 pd (QO P w pd (pvs ++ [(lk x.1, b, V.int ((rvs.length : Nat) : Int))])) = H5 at *
    refine ⟨_, rfl, rw, _, dx2, _, _, rfl, r15, T.c_Rows, T.n_Rows_rows, rfl, .inl ⟨rfl, _, SqL.of r65⟩, _, rfl, _, rfl, (by show 2 ≤ sizeLine; decide), fun q hq => ⟨ld, _, _, rfl, rfl, same_upd hq _ _ r65, smallL (by omega), ?_⟩⟩
    have u6 := same_upd (o := .tup [V.int x.2.1, wv]) hq
    have sb6 := sb5.trans u6.b
    have r16 := u6 _ _ r15
    have r26 := u6 _ _ r25
    have r46 := u6 _ _ r45
    have r66 := u6 _ _ r65
    have hpn6 := u6 _ _ hpn5
    have r36 := r35.imp fun _ _ z => z.at u6.tups
    have r56 := r55.imp fun _ _ z => z.at u6.tups
    have hys6 := RpAll.at u6.tups _ _ hys5
    generalize upd H5 q (.tup [V.int x.2.1, wv]) = H6 at *
    have t7 : Tups H6 (upd H6 ld (.lst (rvs ++ [V.ref q]))) := tups_lst r66
    have hpn7 : (upd H6 ld (.lst (rvs ++ [V.ref q]))) pn = some (.lst (ys' ++ [V.ref b])) := by rw [upd_ne (Ne.symm n4)]; exact hpn6
    have hR7 : RwAt P w K (upd H6 ld (.lst (rvs ++ [V.ref q]))) rw fd pd ld F (pl2 ++ [x.1]) := by
      refine ⟨nfp, dx2, kvs2, _, rvs ++ [V.ref q], by rw [upd_ne n8]; exact r16, by rw [upd_ne n6]; exact r26, r36.imp fun _ _ z => z.at t7, by rw [upd_ne n5]; exact r46, r56.imp fun _ _ z => z.at t7, upd_same, ?_⟩
      rw [List.length_append, List.length_append, r7]
      rfl
    have sb7 := SameB.upd (o := .lst (rvs ++ [V.ref q])) sb6 (.inr rfl)
    have hys7 := RpAll.at t7 _ _ hys6
    generalize upd H6 ld (.lst (rvs ++ [V.ref q])) = H7 at *
    refine ⟨_, rfl, .inl ⟨rfl, _, SqL.of hpn7⟩, pn, _, .ref b, rfl, rfl, hpn7, by simp, ?_⟩
    rw [dl']
    obtain ⟨a1, a2, a3, a4⟩ := pop H7 (pl2 ++ [x.1]) none none none none none sb7 hR7 hpn7 hys7
    refine ⟨n', Nat.lt_succ_self _, pl2 ++ [x.1], st', ys', _, _, _, _, _, _, rfl, a1, a2, a3, a4, ?_, fun e m => ?_, en'⟩
    · refine List.nodup_append.mpr ⟨nd2, by simp, fun a ha b hb z => ?_⟩
      have : b = x.1 := by simpa using hb
      rw [z, this] at ha
      exact kp ha
    · rcases List.mem_append.mp m with m | m
      · exact sub2 e m
      · rw [show e = x.1 by simpa using m]
        exact kF
end
end Pr
/-! A ring of situations at the place, and a ring of heads: plain Lean. -/
namespace Pr
def enc (G : Prog) (s : Sit) : Nat × List Nat := (num s.1, s.2.map G.letter)
theorem num_inj {a b : List Bool} (l : a.length = b.length) (e : num a = num b) : a = b := by
  rw [← vals_num a, ← vals_num b, e, l]
theorem letter_inj {G : Prog} {f f' : Fr} (h : FrOk G f) (h' : FrOk G f') (e : G.letter f = G.letter f') : f = f' := by
  have := letter_at h
  rw [e, letter_at h'] at this
  exact (Option.some.inj this).symm
theorem letters_inj {G : Prog} : ∀ {fs fs' : List Fr}, (∀ f ∈ fs, FrOk G f) → (∀ f ∈ fs', FrOk G f) → fs.map G.letter = fs'.map G.letter → fs = fs'
  | [], [], _, _, _ => rfl
  | [], _ :: _, _, _, e => by cases e
  | _ :: _, [], _, _, e => by cases e
  | f :: r, f' :: r', h, h', e => by
    simp only [List.map_cons, List.cons.injEq] at e
    rw [letter_inj (h f (List.mem_cons_self ..)) (h' f' (List.mem_cons_self ..)) e.1, letters_inj (fun f m => h f (List.mem_cons_of_mem _ m)) (fun f m => h' f (List.mem_cons_of_mem _ m)) e.2]
theorem enc_inj {G : Prog} {s t : Sit} (h : SitOk G s) (h' : SitOk G t) (e : enc G s = enc G t) : s = t := by
  simp only [enc, Prod.mk.injEq] at e
  exact Prod.ext (num_inj (h.g.trans h'.g.symm) e.1) (letters_inj h.f h'.f e.2)
theorem dl_iff {G : Prog} {g : List Bool} {f : Fr} (hg : g.length = G.gc) (hf : FrOk G f) {go : Nat} {l : List Nat} : dl G.mach (num g) (G.letter f) go l ↔ ∃ x ∈ aft G g f, go = num x.1 ∧ l = x.2.map G.letter := by
  have hv : vals (num g) G.gc = g := by rw [← hg]; exact vals_num g
  have one : ∀ (n s : Nat) st, st ∈ G.steps1 n s → st.st = s ∧ st.lt = n := fun n s st h => by
    unfold Prog.steps1 at h
    cases e : G.frames[n]? with
    | none => rw [e] at h; simp at h
    | some f' =>
      rw [e] at h
      obtain ⟨x, _, rfl⟩ := List.mem_map.mp h
      exact ⟨rfl, rfl⟩
  have at_ : G.steps1 (G.letter f) (num g) = (aft G g f).map fun x => ⟨num g, G.letter f, num x.1, x.2.map G.letter⟩ := by
    unfold Prog.steps1
    rw [letter_at hf]
    show (aft G (vals (num g) G.gc) f).map _ = _
    rw [hv]
  constructor
  · intro h
    unfold dl Prog.mach at h
    obtain ⟨n, hn, h⟩ := List.mem_flatMap.mp h
    obtain ⟨s, hs, h⟩ := List.mem_flatMap.mp h
    obtain ⟨e1, e2⟩ := one _ _ _ h
    have e1 : num g = s := e1
    have e2 : G.letter f = n := e2
    rw [← e1, ← e2, at_] at h
    obtain ⟨x, hx, e⟩ := List.mem_map.mp h
    injection e with _ _ e3 e4
    exact ⟨x, hx, e3.symm, e4.symm⟩
  · rintro ⟨x, hx, rfl, rfl⟩
    unfold dl Prog.mach
    refine List.mem_flatMap.mpr ⟨G.letter f, List.mem_range.mpr (letter_lt hf), List.mem_flatMap.mpr ⟨num g, List.mem_range.mpr (by rw [← hg]; exact num_lt g), ?_⟩⟩
    rw [at_]
    exact List.mem_map.mpr ⟨x, hx, rfl⟩
theorem atL_at {G : Prog} {pl : Nat} {f : Fr} (hf : FrOk G f) : atL G pl (G.letter f) = isPass pl ((G.pts[f.1]?).bind (·.stm)) := by
  unfold atL
  rw [letter_at hf]
section
variable {G : Prog} {pl : Nat}
theorem suc_step {s s' : Sit} (h : SitOk G s) (m : s' ∈ sucs G s) : ∃ f, Pd.Run (dl G.mach) (atL G pl) (enc G s) f (enc G s') ∧ (isAt G s pl = true → f = true) := by
  obtain ⟨g, fs⟩ := s
  cases fs with
  | nil => simp [sucs] at m
  | cons f r =>
    simp only [sucs] at m
    obtain ⟨x, hx, rfl⟩ := List.mem_map.mp m
    have hf := h.f f (List.mem_cons_self ..)
    refine ⟨atL G pl (G.letter f) || false, ?_, fun e => ?_⟩
    · have : enc G (x.1, x.2 ++ r) = (num x.1, x.2.map G.letter ++ r.map G.letter) := by
        unfold enc
        rw [List.map_append]
      rw [this]
      exact .head ((dl_iff h.g hf).mpr ⟨x, hx, rfl, rfl⟩) (.refl _)
    · rw [atL_at hf]
      unfold isAt at e
      simpa using e
theorem tr_run (ok : G.Ok) {s t : Sit} (h : SitOk G s) (r : Tr G s t) : SitOk G t ∧ ∃ f, Pd.Run (dl G.mach) (atL G pl) (enc G s) f (enc G t) ∧ (isAt G s pl = true → f = true) := by
  induction r with
  | one m => exact ⟨(sucs_ok ok h _ m).1, suc_step h m⟩
  | more _ m ih =>
    obtain ⟨h2, f, r, e⟩ := ih
    obtain ⟨f', r', _⟩ := suc_step (pl := pl) h2 m
    exact ⟨(sucs_ok ok h2 _ m).1, _, r.trans r', fun z => by rw [e z]; rfl⟩
theorem rch_run (ok : G.Ok) {s : Sit} (r : Rch G s) : SitOk G s ∧ ∃ f, Pd.Run (dl G.mach) (atL G pl) (enc G G.begin) f (enc G s) := by
  induction r with
  | begin => exact ⟨begin_ok ok, false, .refl _⟩
  | step _ m ih =>
    obtain ⟨h2, f, r⟩ := ih
    obtain ⟨f', r', _⟩ := suc_step (pl := pl) h2 m
    exact ⟨(sucs_ok ok h2 _ m).1, _, r.trans r'⟩
theorem dl_suc {s : Sit} (h : SitOk G s) {q a g : Nat} {w l : List Nat} (e : enc G s = (q, a :: w)) (d : dl G.mach q a g l) : ∃ s' ∈ sucs G s, enc G s' = (g, l ++ w) ∧ isAt G s pl = atL G pl a := by
  obtain ⟨gv, fs⟩ := s
  cases fs with
  | nil => simp [enc] at e
  | cons f r =>
    simp only [enc, List.map_cons, Prod.mk.injEq, List.cons.injEq] at e
    obtain ⟨rfl, rfl, rfl⟩ := e
    have hf := h.f f (List.mem_cons_self ..)
    obtain ⟨x, hx, rfl, rfl⟩ := (dl_iff h.g hf).mp d
    refine ⟨(x.1, x.2 ++ r), List.mem_map.mpr ⟨x, hx, rfl⟩, ?_, ?_⟩
    · unfold enc
      rw [List.map_append]
    · rw [atL_at hf]
      rfl
theorem Tr.cons {s s' t : Sit} (r : Tr G s' t) (m : s' ∈ sucs G s) : Tr G s t := by
  induction r with
  | one m' => exact .more (.one m) m'
  | more _ m' ih => exact .more ih m'
theorem run_tr (ok : G.Ok) {c d : Nat × List Nat} {f : Bool} (r : Pd.Run (dl G.mach) (atL G pl) c f d) : ∀ s, SitOk G s → enc G s = c → ∃ t, SitOk G t ∧ enc G t = d ∧ (t = s ∨ Tr G s t) := by
  induction r with
  | refl c => exact fun s h e => ⟨s, h, e, .inl rfl⟩
  | head d _ ih =>
    intro s h e
    obtain ⟨s', m, e', _⟩ := dl_suc (pl := pl) h e d
    obtain ⟨t, h2, e2, z⟩ := ih s' (sucs_ok ok h s' m).1 e'
    refine ⟨t, h2, e2, .inr ?_⟩
    rcases z with z | z
    · rw [z]
      exact .one m
    · exact z.cons m
theorem Rch.tr {s t : Sit} (h : Rch G s) (r : Tr G s t) : Rch G t := by
  induction r with
  | one m => exact .step h m
  | more _ m ih => exact .step ih m
/-- a ring of heads with a marked move, which is reached -/
def HdRing (G : Prog) (pl : Nat) : Prop := ∃ x y f1 f2, Pd.HR (dl G.mach) (atL G pl) (num (falses G.gc), G.letter (G.entry 0)) f1 x ∧ Pd.Mv (dl G.mach) (atL G pl) x true y ∧ Pd.HR (dl G.mach) (atL G pl) y f2 x
theorem mach_two (ok : G.Ok) : ∀ s a g l, dl G.mach s a g l → l.length ≤ 2 := fun s a g l d => (mach_ok ok _ d).n
theorem enc_begin : enc G G.begin = (num (falses G.gc), [G.letter (G.entry 0)]) := rfl
theorem ring_iff (ok : G.Ok) {ps : List Sit} {ed : List (Nat × Nat)} (h : Wd G ps ed ps.length 0) : HdRing G pl ↔ ∃ s ∈ ps, isAt G s pl = true ∧ Tr G s s := by
  constructor
  · rintro ⟨x, y, f1, f2, h1, h2, h3⟩
    obtain ⟨s, a, w, g, l, f, f', r1, e, d, r2⟩ := Pd.cycle_of_ring (mach_two ok) (ps.map (enc G)) (fun c f r => by
      obtain ⟨t, h2, e2, z⟩ := run_tr ok r G.begin (begin_ok ok) enc_begin
      have : Rch G t := by
        rcases z with rfl | z
        · exact .begin
        · exact Rch.begin.tr z
      exact List.mem_map.mpr ⟨t, h.all this, e2⟩) h1 h2 h3
    obtain ⟨t, ht, e2, z⟩ := run_tr ok r1 G.begin (begin_ok ok) enc_begin
    have rt : Rch G t := by
      rcases z with rfl | z
      · exact .begin
      · exact Rch.begin.tr z
    obtain ⟨t', m, e3, i⟩ := dl_suc (pl := pl) ht e2 d
    obtain ⟨u, hu, e4, z2⟩ := run_tr ok r2 t' (sucs_ok ok ht t' m).1 e3
    have : u = t := enc_inj hu ht (e4.trans e2.symm)
    subst this
    refine ⟨u, h.all rt, i.trans e, ?_⟩
    rcases z2 with z2 | z2
    · rw [← z2] at m
      exact .one m
    · exact z2.cons m
  · rintro ⟨s, hs, i, r⟩
    obtain ⟨_, f0, r0⟩ := rch_run (pl := pl) ok (h.rch s hs)
    obtain ⟨_, f1, r1, e⟩ := tr_run (pl := pl) ok (h.ok s hs) r
    rw [e i] at r1
    rw [enc_begin] at r0
    exact Pd.ring_of_cycle (mach_two ok) r0 r1
theorem mch_of (ok : G.Ok) (pl : Nat) : Mch G.mach (fun i => decide (i ∈ G.marks pl)) (atL G pl) (2 ^ G.gc) G.frames.length := by
  refine ⟨fun st h => ?_, fun i st e => ?_⟩
  · obtain ⟨a, b, c, d, e⟩ := mach_ok ok st h
    exact ⟨a, b, c, d, e⟩
  · have hi := (List.getElem?_eq_some_iff.mp e).1
    have : i ∈ G.marks pl ↔ atL G pl st.lt = true := by
      unfold Prog.marks
      rw [List.mem_filter, e]
      exact ⟨fun z => z.2, fun z => ⟨List.mem_range.mpr hi, z⟩⟩
    by_cases c : atL G pl st.lt = true
    · rw [c]
      exact decide_eq_true (this.mpr c)
    · rw [Bool.eq_false_iff.mpr c]
      exact decide_eq_false fun z => c (this.mp z)
theorem marks_len : (G.marks pl).length ≤ G.mach.length := by
  unfold Prog.marks
  have := List.length_filter_le (fun i => match G.mach[i]? with
    | some st => atL G pl st.lt
    | none => false) (List.range G.mach.length)
  rw [List.length_range] at this
  exact this
/-! ### heads -/
variable {M : List Stp} {mk μ : Nat → Bool} {S L : Nat} {F : List Fd}
theorem all_mv (c : Mch M mk μ S L) (t : Tab M μ F) {h : Hd} {m : Move} (z : (h, m) ∈ allMoves F M mk) : Pd.Mv (dl M) μ h m.2.1 m.1 := by
  unfold allMoves at z
  obtain ⟨i, hi, z⟩ := List.mem_flatMap.mp z
  cases e : M[i]? with
  | none => rw [e] at z; simp at z
  | some st =>
    rw [e] at z
    have hm := List.mem_of_getElem? e
    have e1 := c.mks i st e
    unfold stMoves at z
    rcases List.mem_append.mp z with z | z
    · unfold stM1 at z
      cases ela : st.la with
      | nil => rw [ela] at z; simp at z
      | cons b l =>
        rw [ela] at z
        simp only [List.mem_singleton, Prod.mk.injEq] at z
        obtain ⟨rfl, rfl⟩ := z
        show Pd.Mv (dl M) μ _ (mk i) _
        rw [e1]
        have d : dl M st.st st.lt st.go (b :: l) := by rw [← ela]; exact hm
        exact .m1 d
    · unfold stM2 at z
      split at z
      · rename_i b d' ela
        obtain ⟨k, hk, z⟩ := List.mem_map.mp z
        simp only [Prod.mk.injEq] at z
        obtain ⟨rfl, rfl⟩ := z
        obtain ⟨k1, k2, k3⟩ := mem_leav.mp hk
        have d : dl M st.st st.lt st.go [b, d'] := by rw [← ela]; exact hm
        have p := t.pop k1
        rw [k2, k3] at p
        show Pd.Mv (dl M) μ _ (mk i || k.2.2.2) _
        rw [e1]
        exact .m2 d p
      · simp at z
theorem mv_all (c : Mch M mk μ S L) (wh : Whole M mk F) {h k : Hd} {b : Bool} (z : Pd.Mv (dl M) μ h b k) : ∃ i oe, (h, (k, b, i, oe)) ∈ allMoves F M mk := by
  have at_ : ∀ {i : Nat} {st : Stp} {x : Hd × Move}, M[i]? = some st → x ∈ stMoves F i st (mk i) → x ∈ allMoves F M mk := fun {i st x} e hx => by
    unfold allMoves
    refine List.mem_flatMap.mpr ⟨i, List.mem_range.mpr (List.getElem?_eq_some_iff.mp e).1, ?_⟩
    rw [e]
    exact hx
  cases z with
  | m1 d =>
    obtain ⟨i, hi⟩ := List.mem_iff_getElem?.mp d
    have e1 := c.mks i _ hi
    refine ⟨i, none, at_ hi ?_⟩
    rw [e1]
    unfold stMoves stM1
    exact List.mem_append_left _ (List.mem_singleton.mpr rfl)
  | @m2 s a g b c' r f d p =>
    obtain ⟨i, hi⟩ := List.mem_iff_getElem?.mp d
    have e1 := c.mks i _ hi
    have k := wh.pop c p
    refine ⟨i, some (g, b, r, f), at_ hi ?_⟩
    rw [e1]
    unfold stMoves stM2
    exact List.mem_append_right _ (List.mem_map.mpr ⟨(g, b, r, f), mem_leav.mpr ⟨k, rfl, rfl⟩, rfl⟩)
variable {A : List (Hd × Move)} {h0 : Hd} {R : List Rch1}
theorem hr_in (up : ∀ {h k : Hd} {b : Bool}, Pd.Mv (dl M) μ h b k → ∃ i oe, (h, (k, b, i, oe)) ∈ A) (cl : Clsd A R) {h x : Hd} {f : Bool} (r : Pd.HR (dl M) μ h f x) (m : h ∈ rks R) : x ∈ rks R := by
  induction r with
  | refl => exact m
  | tail _ z ih =>
    obtain ⟨i, oe, e⟩ := up z
    exact cl _ ih _ e
theorem in_hr (dn : ∀ {h : Hd} {m : Move}, (h, m) ∈ A → Pd.Mv (dl M) μ h m.2.1 m.1) (ch : Chn A h0 R) : ∀ (n i : Nat) (x : Rch1), i < n → R[i]? = some x → ∃ f, Pd.HR (dl M) μ h0 f x.1
  | 0, i, x, hi, _ => by omega
  | n + 1, i, x, hi, e => by
    rcases ch.of i x e with ⟨_, z⟩ | ⟨h, m, _, z2, z3, j, hj, z4⟩
    · rw [z]
      exact ⟨false, .refl _⟩
    · obtain ⟨y, hy, e2⟩ := Option.map_eq_some_iff.mp z4
      obtain ⟨f, r⟩ := in_hr dn ch n j y (by omega) hy
      rw [e2] at r
      rw [← z3]
      exact ⟨_, .tail r (dn z2)⟩
theorem rks_hr (dn : ∀ {h : Hd} {m : Move}, (h, m) ∈ A → Pd.Mv (dl M) μ h m.2.1 m.1) (ch : Chn A h0 R) {x : Hd} (m : x ∈ rks R) : ∃ f, Pd.HR (dl M) μ h0 f x := by
  obtain ⟨y, hy, rfl⟩ := List.mem_map.mp m
  obtain ⟨i, hi⟩ := List.mem_iff_getElem?.mp hy
  exact in_hr dn ch (i + 1) i y (Nat.lt_succ_self _) hi
theorem ring_yes (c : Mch M mk μ S L) (t : Tab M μ F) (hA : A = allMoves F M mk) (ch : Chn A h0 R) {h : Hd} {m : Move} (hh : h ∈ rks R) (hm : (h, m) ∈ A) (e : m.2.1 = true) (b : ∃ R', Chn A m.1 R' ∧ h ∈ rks R') :
    ∃ x y f1 f2, Pd.HR (dl M) μ h0 f1 x ∧ Pd.Mv (dl M) μ x true y ∧ Pd.HR (dl M) μ y f2 x := by
  subst hA
  obtain ⟨R', ch', h'⟩ := b
  obtain ⟨f1, r1⟩ := rks_hr (all_mv c t) ch hh
  obtain ⟨f2, r2⟩ := rks_hr (all_mv c t) ch' h'
  have := all_mv c t hm
  rw [e] at this
  exact ⟨h, m.1, f1, f2, r1, this, r2⟩
theorem ring_no (c : Mch M mk μ S L) (wh : Whole M mk F) (hA : A = allMoves F M mk) (ch : Chn A h0 R) (cl : Clsd A R) (no : NoRing A R) :
    ¬ ∃ x y f1 f2, Pd.HR (dl M) μ h0 f1 x ∧ Pd.Mv (dl M) μ x true y ∧ Pd.HR (dl M) μ y f2 x := by
  subst hA
  rintro ⟨x, y, f1, f2, h1, h2, h3⟩
  have mx := hr_in (mv_all c wh) cl h1 ch.has
  obtain ⟨i, oe, e⟩ := mv_all c wh h2
  obtain ⟨R', ch', cl', n⟩ := no x mx _ e rfl
  exact n (hr_in (mv_all c wh) cl' h3 ch'.has)
end
end Pr
/-! told_moves. -/
namespace Pr
open PySem PySem.Spec PyProof.Rows L2 RT
open C8 (Cal Met Mak pe_c pe_mk pe_mt pe_mt0)
theorem sb_tups {S : Addr → Prop} {H H' : Hp} (sb : SameB S H H') (n : ∀ x xs, S x → H x ≠ some (.tup xs)) : Tups H H' := fun b xs e => sb b _ e fun z => n b xs z e
section
variable {P : Program} {w : World} {K : PySem.W.Frag} {mg : Str → Option Value} {base : Heap}
theorem RwAt.nt {H : Hp} {rw fd pd ld : Addr} {F : List Fd} {pl : List En} (h : RwAt P w K H rw fd pd ld F pl) : ∀ x xs, (x = pd ∨ x = ld) → H x ≠ some (.tup xs) := fun x xs z e => by
  obtain ⟨_, _, _, _, _, _, _, _, r4, _, r6, _⟩ := h
  rcases z with rfl | rfl
  · rw [r4] at e
    cases e
  · rw [r6] at e
    cases e
def sp_told (P : Program) (w : World) (K : PySem.W.Frag) : Sp := fun vs H Q _ => ∃ (rw fd pd ld l : Addr) (ys : List V) (ms : List Move) (F : List Fd) (pl : List En) (M : List Stp) (μ : Nat → Bool), vs = [.ref rw, .ref l] ∧ RwAt P w K H rw fd pd ld F pl ∧ H l = some (.lst ys) ∧ RpAll H (ms.map movD) ys ∧
  (∀ m ∈ ms, ∀ e, m.2.2.2 = some e → e ∈ keys F) ∧ l ≠ ld ∧ ms.length ≤ 30000 ∧ (∀ e ∈ pl, e ∈ keys F) ∧ pl.Nodup ∧ Tab M μ F ∧ F.length ≤ 1000 ∧
  ∀ (v : V) (pl' : List En) (H' : Hp), SameB (fun x => x = pd ∨ x = ld) H H' → RwAt P w K H' rw fd pd ld F pl' → (∀ e ∈ pl', e ∈ keys F) → pl'.Nodup → Q v H'
abbrev n_told_moves : List Str := ["rows", "moves", "told", "move", "part"]
theorem sc_told_moves : FnScope n_told_moves ["rows", "moves"] (defScope s_told_moves) := ⟨rfl, rfl, rfl, by decide +kernel, rfl, by decide +kernel, by decide +kernel⟩
theorem ok_told (T : Env K mg) (c_Rows_add : Met P w K mg base 2 (He.ga K "Rows") "add" (sp_add P w K) []) : Cal P w K mg base 3 "told_moves" (sp_told P w K) [] := by
  obtain ⟨fd, F⟩ := T.F_told_moves
  refine cal_by F T.g_told_moves (F.bindsN fun _ _ _ _ _ _ us hl => match us, hl with | [_, _], _ => rfl) sc_told_moves (fun vs H Q E h => ?_) (fun cdv A outer s H vs Q E hr h => ?_)
  · obtain ⟨rw, fd, pd, ld, l, ys, ms, F, pl, M, μ, rfl, _⟩ := h
    rfl
  obtain ⟨rw, fd, pd, ld, l, ys, ms, F, pl, M, μ, rfl, hR, hl, hys, hms, nll, ms3, sub, nd, tab, F1000, fin⟩ := h
  refine ⟨_, pss_cons (ps_set (i := 2) sc_told_moves.nd rfl (Or.inl rfl) (pe_lst pa_nil))
      (pss_cons (ps_for PassesOwn.never rfl (pi_list (pv 1)) (pg_name (i := 3) sc_told_moves.nd rfl (Or.inl rfl))
        (pss_cons (ps_set (i := 4) sc_told_moves.nd rfl (Or.inl rfl) pe_non)
        (C8.pss_cut (ps_if (pt_cmpR op_notN (pe_ix ix_tup (pv 3) pe_int (fun _ _ => rfl)) pe_non (nomark _))
          (pss_cons (ps_expr (pe_mt c_Rows_add hr (by omega) (pv 0) (pa_cons (pe_ix ix_tup (pv 3) pe_int (fun _ _ => rfl)) (pa_cons pe_bl pa_nil))))
          (pss_one (ps_set (i := 4) sc_told_moves.nd rfl (Or.inl rfl) (pe_qgetP (P := P) (w := w) rfl rfl (hu_of hr) (pe_fld (pv 0) rfl) (pe_ix ix_tup (pv 3) pe_int (fun _ _ => rfl)) (fun _ _ => rfl)))))
          pss_nil)
        (pss_one (ps_expr (pe_bm PySem.F.plainAttrs_list PySem.F.slot_list_append PySem.F.type_list_append mt_append (pv 2) (pa_cons (pe_tup (pa_cons (pe_ix ix_tup (pv 3) pe_int (fun _ _ => rfl)) (pa_cons (pv 4) pa_nil))) pa_nil)))))))
      (pss_one (ps_ret (pe_callTy call_tuple_of (by rfl) T.f_tuple (by decide +kernel) (pa_cons (pv 2) pa_nil))))), ?_⟩
  have yl : ys.length = ms.length := by rw [hys.len, List.length_map]
  refine ⟨Nat.zero_le _, fun D hD => ?_⟩
  have u1 := same_upd (o := .lst []) hD
  have hD1 : (upd H D (.lst [])) D = some (.lst []) := upd_same
  have sb1 : SameB (fun x => x = pd ∨ x = ld) H (upd H D (.lst [])) := u1.b
  have hR1 := hR.same u1
  have nt := hR.nt
  obtain ⟨_, _, _, _, _, q1, q2, _, q4, _, q6, _⟩ := id hR
  have n1 : rw ≠ D := ne_of_none q1 hD
  have n2 : fd ≠ D := ne_of_none q2 hD
  have n3 : pd ≠ D := ne_of_none q4 hD
  have n4 : ld ≠ D := ne_of_none q6 hD
  have nlp : l ≠ pd := fun z => by rw [← z, hl] at q4; cases q4
  generalize upd H D (.lst []) = H1 at *
  have hlB : ∀ {H3 : Hp}, SameB (fun x => x = pd ∨ x = ld) H H3 → H3 l = some (.lst ys) := fun sb => sb _ _ hl fun z => by
    rcases z with z | z
    · exact nlp z
    · exact nll z
  refine ⟨_, rfl, l, rfl, ⟨_, SqL.of (hlB sb1)⟩, for_it (walk_list (K := K) (a := l) (xs := ys)) (fun j σ H3 => ∃ (x3 x4 : Option V) (pl3 : List En) (zs : List V), σ = [some (.ref rw), some (.ref l), some (.ref D), x3, x4] ∧ SameB (fun x => x = pd ∨ x = ld) H H3 ∧ RwAt P w K H3 rw fd pd ld F pl3 ∧ (∀ e ∈ pl3, e ∈ keys F) ∧ pl3.Nodup ∧ H3 D = some (.lst zs) ∧ zs.length = j)
    ⟨_, _, pl, [], rfl, sb1, hR1, sub, nd, hD1, rfl⟩ (fun j σ H3 _ ⟨_, _, _, _, _, y, _⟩ => SqL.of (hlB y)) ?_ ?_⟩
  · rintro j yv σ _ H3 hj ⟨x3, x4, pl3, zs, rfl, sb3, hR3, sub3, nd3, hD3, zl⟩ ⟨rfl, hyj⟩
    obtain ⟨dd, hdj, rdj⟩ := hys.getV hyj
    rw [List.getElem?_map] at hdj
    obtain ⟨m, hm, rfl⟩ := Option.map_eq_some_iff.mp hdj
    have t3 := sb_tups sb3 nt
    obtain ⟨mb, hb', ev, rfl, hmb, rhb, rev⟩ := mov_at (Rp.at t3 _ _ rdj)
    obtain ⟨_, dx3, kvs3, pvs3, rvs3, r1, r2, r3, r4, r5, r6, r7⟩ := id hR3
    refine ⟨fun σ' H' => ∃ (pt : V) (pl4 : List En), σ' = [some (.ref rw), some (.ref l), some (.ref D), some (.ref mb), some pt] ∧ SameB (fun x => x = pd ∨ x = ld) H H' ∧ RwAt P w K H' rw fd pd ld F pl4 ∧ (∀ e ∈ pl4, e ∈ keys F) ∧ pl4.Nodup ∧ H' D = some (.lst zs), ?_, ?_⟩
    · refine ⟨_, rfl, mb, _, _, _, rfl, rfl, SqT.of hmb, rfl, rfl, _, rfl, ?_⟩
      cases eo : m.2.2.2 with
      | none =>
        rw [eo] at rev
        cases (show ev = V.non from rev)
        exact if_f (by decide +kernel) ⟨_, pl3, rfl, sb3, hR3, sub3, nd3, hD3⟩
      | some e =>
        rw [eo] at rev
        obtain ⟨eb, rfl, heb⟩ := ent_at rev
        have eF := hms m (List.mem_of_getElem? hm) e eo
        refine if_t (by simp) ⟨_, rfl, rw, dx3, _, rfl, r1, rfl, _, rfl, mb, _, _, _, rfl, rfl, SqT.of hmb, rfl, rw, fd, pd, ld, eb, e, F, pl3, M, μ, rfl, hR3, rev, eF, sub3, nd3, tab, F1000, fun pl4 H4 sb4 hR4 s34 sub4 nd4 k4 => ?_⟩
        have t4 := sb_tups sb4 hR3.nt
        have hmb4 := t4 _ _ hmb
        have rev4 : Rp H4 (entD e) (.ref eb) := Rp.at t4 _ _ rev
        obtain ⟨_, dx4, kvs4, pvs4, rvs4, p1, p2, p3, p4, p5, p6, p7⟩ := id hR4
        obtain ⟨jj, hjj⟩ := plq_at p5 k4
        refine ⟨_, rfl, rw, _, dx4, _, _, rfl, p1, T.c_Rows, T.n_Rows_places, rfl, _, rfl, mb, _, _, _, rfl, rfl, SqT.of hmb4, rfl, pd, eb, pvs4, lk e, _, rfl, p4, plq_keys p5, rfl, key_ent rev4, hjj, ?_⟩
        exact ⟨_, pl4, rfl, sb3.trans sb4, hR4, sub4, nd4, sb4 _ _ hD3 fun z => by
          rcases z with z | z
          · exact n3 z.symm
          · exact n4 z.symm⟩
    · rintro σ' H4 ⟨pt, pl4, rfl, sb4, hR4, sub4, nd4, hD4⟩
      have t4 := sb_tups sb4 nt
      obtain ⟨mb2, hb2, ev2, e2, hmb2, _⟩ := mov_at (Rp.at t4 _ _ rdj)
      cases e2
      refine ⟨_, rfl, .inl ⟨rfl, _, SqL.of hD4⟩, _, rfl, mb, _, _, _, rfl, rfl, SqT.of hmb2, rfl, _, rfl, (by show 2 ≤ sizeLine; decide), fun q hq => ⟨D, _, _, rfl, rfl, same_upd hq _ _ hD4, smallL (by omega), ?_⟩⟩
      have u5 := same_upd (o := .tup [V.int m.2.2.1, pt]) hq
      have sb5 := sb4.trans u5.b
      have hR5 := hR4.same u5
      have hD5 := u5 _ _ hD4
      generalize upd H4 q (.tup [V.int m.2.2.1, pt]) = H5 at *
      refine ⟨_, _, pl4, _, rfl, sb5.none hD, hR5.at (tups_lst hD5) fun c u e z => ?_, sub4, nd4, upd_same, by rw [List.length_append, zl]; rfl⟩
      rw [upd_ne]
      · exact e
      · rcases z with rfl | rfl | rfl | rfl
        · exact n1
        · exact n2
        · exact n3
        · exact n4
  · rintro σ H3 ⟨x3, x4, pl3, zs, rfl, sb3, hR3, sub3, nd3, hD3, zl⟩
    refine ⟨_, rfl, D, zs, rfl, .inl ⟨SqL.of hD3, fun t ht => ?_⟩⟩
    exact fin _ pl3 _ (sb3.trans (same_upd ht).b) (hR3.same (same_upd ht)) sub3 nd3
end
end Pr
/-! endless. -/
namespace Pr
open PySem PySem.Spec PyProof.Rows L2 RT
open C8 (Cal Met Mak pe_c pe_mk pe_mt pe_mt0)
theorem all_len {F : List Fd} {M : List Stp} {mk μ : Nat → Bool} {S L : Nat} (c : Mch M mk μ S L) (t : Tab M μ F) (hS : S ≤ 4) (hM : M.length ≤ 1000) : (allMoves F M mk).length ≤ 20000 := by
  have := flat_len (fun i => match M[i]? with
    | some st => stMoves F i st (mk i)
    | none => []) 9 M.length fun i => by
      cases M[i]? with
      | none => simp
      | some st =>
        show (stMoves F i st (mk i)).length ≤ 9
        unfold stMoves
        rw [List.length_append]
        have h1 : (stM1 i st (mk i)).length ≤ 1 := by
          unfold stM1
          cases st.la <;> simp
        have h2 : (stM2 F i st (mk i)).length ≤ 8 := by
          unfold stM2
          split
          · rw [List.length_map]
            rename_i c1 d1 hla
            have := leav_len c t st.go c1
            omega
          · simp
        omega
  unfold allMoves
  exact Nat.le_trans this (by omega)
theorem all_ent {F : List Fd} {M : List Stp} {mk : Nat → Bool} {h : Hd} {m : Move} (z : (h, m) ∈ allMoves F M mk) {e : En} (he : m.2.2.2 = some e) : e ∈ keys F := by
  unfold allMoves at z
  obtain ⟨i, hi, z⟩ := List.mem_flatMap.mp z
  cases hst : M[i]? with
  | none => rw [hst] at z; simp at z
  | some st =>
    rw [hst] at z
    unfold stMoves at z
    rcases List.mem_append.mp z with z | z
    · unfold stM1 at z
      cases ela : st.la with
      | nil => rw [ela] at z; simp at z
      | cons b l =>
        rw [ela] at z
        simp only [List.mem_singleton, Prod.mk.injEq] at z
        obtain ⟨rfl, rfl⟩ := z
        cases he
    · unfold stM2 at z
      split at z
      · obtain ⟨k, hk, z⟩ := List.mem_map.mp z
        simp only [Prod.mk.injEq] at z
        obtain ⟨rfl, rfl⟩ := z
        cases he
        exact (mem_leav.mp hk).1
      · simp at z
theorem entD_alike (e e' : En) : PySem.W.alike (entD e) (entD e') = true := by
  simp [entD, PySem.W.alike, PySem.W.alikeAll]
theorem entD_depth (e : En) : (entD e).depth ≤ 8 := by
  simp [entD, PyData.depth, PyData.depthAll]
theorem rpall_of {H : Hp} : ∀ {F : List Fd} {kvs : List QE}, All2 (RowQ H) F kvs → RpAll H ((keys F).map entD) (kvs.map fun e => V.ref e.2.1)
  | [], kvs, h => by
    rw [List.eq_nil_of_length_eq_zero h.1]
    rfl
  | x :: F, [], h => by
    have := h.1
    simp at this
  | x :: F, q :: kvs, h => by
    obtain ⟨d, e, _, r, _⟩ := h.2 0 q rfl
    cases (show some x = some d from e)
    exact .cons r (rpall_of ⟨by have := h.1; simpa using this, fun i v e => h.2 (i + 1) v e⟩)
section
variable {P : Program} {w : World} {K : PySem.W.Frag} {mg : Str → Option Value} {base : Heap}
def Ring (M : List Stp) (μ : Nat → Bool) (h0 : Hd) : Prop := ∃ x y f1 f2, Pd.HR (dl M) μ h0 f1 x ∧ Pd.Mv (dl M) μ x true y ∧ Pd.HR (dl M) μ y f2 x
def sp_endless (K : PySem.W.Frag) : Sp := fun vs H Q _ => ∃ (mx mt ct cp : Addr) (s c : Nat) (M : List Stp) (ms : List Nat) (mk μ : Nat → Bool) (S L : Nat), vs = [.ref mx, .ref mt, .ref ct] ∧ McAt K H mx M ∧ H mt = some (.tup (ms.map fun n : Nat => V.int (n : Int))) ∧ (∀ i, mk i = decide (i ∈ ms)) ∧ ms.length ≤ 1000 ∧
  Mch M mk μ S L ∧ S ≤ 4 ∧ L ≤ 20 ∧ M.length ≤ 1000 ∧ H ct = some (.tup [.int s, .ref cp]) ∧ H cp = some (.tup [.int c]) ∧
  ∀ (t : Addr) (u : V) (b : Bool) (H' : Hp), H' t = some (.tup [.bl b, u]) → (b = true ↔ Ring M μ (s, c)) → Q (.ref t) H'
abbrev n_endless : List Str := ["machine", "marked", "configuration", "table", "heads", "begins", "found", "ring", "way", "start", "rows", "entry", "descent", "told_way", "told_ring"]
theorem sc_endless : FnScope n_endless ["machine", "marked", "configuration"] (defScope s_endless) := ⟨rfl, rfl, rfl, by decide +kernel, rfl, by decide +kernel, by decide +kernel⟩
theorem ok_endless (T : Env K mg) (c_TakeOff : Mak P w K mg base 3 "TakeOff" (He.ga K "TakeOff") (sp_take P w K) []) (c_Heads : Mak P w K mg base 2 "Heads" (He.ga K "Heads") (sp_heads P w K) []) (c_descents : Cal P w K mg base 2 "descents" (sp_desc P w K) [])
    (c_Heads_reached : Met P w K mg base 2 (He.ga K "Heads") "reached" (sp_reached K) []) (c_ring_at : Cal P w K mg base 3 "ring_at" (sp_ring K) []) (c_told_ranks : Cal P w K mg base 2 "told_ranks" (sp_ranks K) []) (c_way_to : Cal P w K mg base 1 "way_to" sp_way [])
    (c_Rows : Mak P w K mg base 1 "Rows" (He.ga K "Rows") (sp_rows P w K) []) (c_Rows_add : Met P w K mg base 2 (He.ga K "Rows") "add" (sp_add P w K) []) (c_told_moves : Cal P w K mg base 3 "told_moves" (sp_told P w K) []) : Cal P w K mg base 5 "endless" (sp_endless K) [] := by
  obtain ⟨fd, F⟩ := T.F_endless
  refine cal_by F T.g_endless (F.bindsN fun _ _ _ _ _ _ us hl => match us, hl with | [_, _, _], _ => rfl) sc_endless (fun vs H Q E h => ?_) (fun cdv A outer s H vs Q E hr h => ?_)
  · obtain ⟨mx, mt, ct, cp, s, c, M, ms, mk, μ, S, L, rfl, _⟩ := h
    rfl
  obtain ⟨mx, mt, ct, cp, s, c, M, ms, mk, μ, S, L, rfl, hm, hmt, hmk, hms, hc, hS, hL, hM, hct, hcp, fin⟩ := h
  refine ⟨_, pss_cons (ps_set (i := 3) sc_endless.nd rfl (Or.inl rfl) (pe_mk c_TakeOff hr (by omega) rfl (pa_cons (pv 0) (pa_cons (pv 1) pa_nil))))
      (pss_cons (ps_set (i := 4) sc_endless.nd rfl (Or.inl rfl) (pe_mk c_Heads hr (by omega) rfl (pa_cons (pv 0) (pa_cons (pv 3) pa_nil))))
      (pss_cons (ps_set (i := 5) sc_endless.nd rfl (Or.inl rfl) (pe_c c_descents hr (by omega) rfl (pa_cons (pv 3) (pa_cons (pv 2) pa_nil))))
      (pss_cons (ps_set (i := 6) sc_endless.nd rfl (Or.inl rfl) (pe_mt c_Heads_reached hr (by omega) (pv 4) (pa_cons (pe_callTy (call_list_dT rfl) (by rfl) T.f_list (by decide +kernel) (pa_cons (pv 5) pa_nil)) pa_nil)))
      (pss_cons (ps_set (i := 7) sc_endless.nd rfl (Or.inl rfl) (pe_c c_ring_at hr (by omega) rfl (pa_cons (pv 4) (pa_cons (pv 6) pa_nil))))
      (pss_cons (ps_if (pt_cmpR op_isN (pv 7) pe_non (nomark _))
        (pss_one (ps_ret (pe_tup (pa_cons pe_bl (pa_cons (pe_tup (pa_cons pe_str (pa_cons (pe_callTy call_tuple_of (by rfl) T.f_tuple (by decide +kernel) (pa_cons (pe_callB (cr_sortedX hr.units) (by rfl) T.f_sorted (by decide +kernel) (pa_cons (pe_callTy (call_list_QP (P := P) (w := w) rfl rfl rfl) (by rfl) T.f_list (by decide +kernel) (pa_cons (pe_fld (pv 3) rfl) pa_nil)) pa_nil)) pa_nil)) (pa_cons (pe_c c_told_ranks hr (by omega) rfl (pa_cons (pv 4) (pa_cons (pv 6) pa_nil))) pa_nil)))) pa_nil)))))
        pss_nil)
      (pss_cons (ps_set (i := 8) sc_endless.nd rfl (Or.inl rfl) (pe_c c_way_to hr (by omega) rfl (pa_cons (pv 6) (pa_cons (pe_ix ix_tup (pv 7) pe_int (fun _ _ => rfl)) pa_nil))))
      (pss_cons (ps_set (i := 9) sc_endless.nd rfl (Or.inl rfl) (pe_ix ix_tup (pv 7) pe_int (fun _ _ => rfl)))
      (pss_cons (ps_while PassesOwn.never (pt_cmpR op_notN (pe_dget (hu_of hr) (pv 6) (pv 9) (fun _ _ => rfl)) pe_non (nomark _))
        (pss_one (ps_set (i := 9) sc_endless.nd rfl (Or.inl rfl) (pe_ix ix_tup (pe_dget (hu_of hr) (pv 6) (pv 9) (fun _ _ => rfl)) pe_int (fun _ _ => rfl)))))
      (pss_cons (ps_set (i := 10) sc_endless.nd rfl (Or.inr rfl) (pe_mk c_Rows hr (by omega) rfl (pa_cons (pe_fld (pv 3) rfl) pa_nil)))
      (pss_cons (ps_for PassesOwn.never rfl (pi_tup (pe_dget (hu_of hr) (pv 5) (pv 9) (fun _ _ => rfl))) (pg_name (i := 11) sc_endless.nd rfl (Or.inl rfl))
        (pss_one (ps_expr (pe_mt c_Rows_add hr (by omega) (pv 10) (pa_cons (pv 11) (pa_cons pe_bl pa_nil))))))
      (pss_cons (ps_set (i := 12) sc_endless.nd rfl (Or.inl rfl) (pe_callTy call_tuple_of (by rfl) T.f_tuple (by decide +kernel) (pa_cons (pe_lc (own := [("entry", 11)]) (g := gName 11) (by rfl) sc_endless.nd (pi_tup (pe_dget (hu_of hr) (pv 5) (pv 9) (fun _ _ => rfl))) (blkOk_by (own := [("entry", 11)]) (N := n_endless) (sc := defScope s_endless) (by decide +kernel)) (fun _ _ _ _ _ => (pg_name (i := 11) sc_endless.nd rfl (Or.inl rfl))) (fun _ _ _ _ _ => pts_nil) (fun _ _ _ _ _ => (pe_qgetP (P := P) (w := w) rfl rfl (hu_of hr) (pe_fldK (K := K) rfl (pv 10) rfl) (pv 11) (fun _ _ => rfl)))) pa_nil)))
      (pss_cons (ps_set (i := 13) sc_endless.nd rfl (Or.inl rfl) (pe_c c_told_moves hr (by omega) rfl (pa_cons (pv 10) (pa_cons (pv 8) pa_nil))))
      (pss_cons (ps_set (i := 14) sc_endless.nd rfl (Or.inl rfl) (pe_c c_told_moves hr (by omega) rfl (pa_cons (pv 10) (pa_cons (pe_op op_cat (pe_lst (pa_cons (pe_ix ix_tup (pv 7) pe_int (fun _ _ => rfl)) pa_nil)) (pe_ix ix_tup (pv 7) pe_int (fun _ _ => rfl))) pa_nil))))
      (pss_one (ps_ret (pe_tup (pa_cons pe_bl (pa_cons (pe_tup (pa_cons pe_str (pa_cons (pe_callTy call_tuple_of (by rfl) T.f_tuple (by decide +kernel) (pa_cons (pe_fld (pv 10) rfl) pa_nil)) (pa_cons (pv 12) (pa_cons (pv 13) (pa_cons (pv 14) pa_nil)))))) pa_nil)))))))))))))))))), ?_⟩
  refine ⟨_, rfl, _, rfl, fun tk dtk h1 h2 h3 => ⟨tk, dtk, mx, mt, M, ms, mk, μ, S, L, H, rfl, made h1 h2, h1, upd_same, hm, hmt, hmk, by omega, hc, hS, hL, by omega, fun F H1 s1 tk1 tab wh => ⟨rfl, ?_⟩⟩⟩
  have F640 : F.length ≤ 640 := by
    have h1 := tab.len hc
    have h2 : S * (L * (S * 2)) ≤ 4 * (20 * (4 * 2)) := Nat.mul_le_mul hS (Nat.mul_le_mul hL (by omega))
    omega
  have A20 := all_len hc tab hS hM
  refine ⟨_, rfl, _, rfl, fun hx dhx g1 g2 g3 => ⟨hx, dhx, mx, tk, M, mk, μ, S, L, F, H1, rfl, made g1 g2, g1, upd_same, hm.same s1, tk1.n (fun _ _ _ _ => trivial), hc, tab, hS, hM, fun H2 s2 hd2 => ⟨rfl, ?_⟩⟩⟩
  have s12 := s1.trans s2
  have tk2 : TkAt P w K (fun x => ∃ u, H2 x = some u) H2 tk M mk F := (tk1.same s2).n fun x u _ e => ⟨u, e⟩
  have hd2 : HdAt K (fun x => ∃ u, H2 x = some u) H2 hx (allMoves F M mk) := hd2.n fun x u _ e => ⟨u, e⟩
  generalize hA : allMoves F M mk = A at *
  refine ⟨_, rfl, _, rfl, tk, ct, cp, s, c, _, M, mk, μ, S, L, F, rfl, tk2, fun x z => z, s12 _ _ hct, s12 _ _ hcp, hc, tab, hS, fun bd z H3 s3 hbd0 hbd hz => ?_⟩
  have hd3 := hd2.same s3
  obtain ⟨dhx3, md3, e3, _⟩ := id hd3
  refine ⟨_, rfl, hx, dhx3, _, rfl, e3, rfl, _, rfl, bd, _, rfl, .inl hbd, fun p bs hp hbs => ?_⟩
  obtain ⟨b0, rfl, hb0⟩ : ∃ b0, bs = [b0] ∧ H3 b0 = some (.tup ((k2 s c).map kV)) := by
    cases hbs with
    | cons z zz =>
      cases zz
      exact ⟨_, rfl, z⟩
  have u4 := same_upd (o := .lst ([b0].map V.ref)) hp
  have hp4 : (upd H3 p (.lst ([b0].map V.ref))) p = some (.lst [V.ref b0]) := upd_same
  have s4 := s3.trans u4
  have hbd4 := u4 _ _ hbd
  have hz4 := u4 _ _ hz
  have rb4 : Rp (upd H3 p (.lst ([b0].map V.ref))) (hdD (s, c)) (.ref b0) := ⟨b0, _, rfl, u4 _ _ hb0, .cons rfl (.one rfl)⟩
  have hd4 : HdAt K (fun x => ∃ u, (upd H3 p (.lst ([b0].map V.ref))) x = some u) (upd H3 p (.lst ([b0].map V.ref))) hx A := (hd3.same u4).n fun x u _ e => ⟨u, e⟩
  generalize upd H3 p (.lst ([b0].map V.ref)) = H4 at *
  refine ⟨hx, p, .ref b0, (s, c), A, _, rfl, hd4, hp4, rb4, A20, fun fd R H5 s5 hfd0 rn ch cl => ?_⟩
  have R20 : R.length ≤ 20001 := by have := ch.len; omega
  have hd5 := hd4.same s5
  have hN : ∀ {H' : Hp}, Same H5 H' → ∀ x, (∃ u, H4 x = some u) → x ≠ fd ∧ ∃ u, H' x = some u := fun s' x ⟨u, e⟩ => ⟨ne_of_none e hfd0, u, s' _ _ (s5 _ _ e)⟩
  have s25 := s4.trans s5
  have tk5 := tk2.same s25
  refine ⟨_, rfl, _, rfl, hx, fd, A, R, _, rfl, hd5, hN (Same.refl _), rn, A20, fun H6 s6 no => ?_, fun t hb mb l h m mz ys H6 s6 ht rhb rmb hl hys hR' hmA e hms' msl bk => ?_⟩
  · -- none
    refine ⟨_, rfl, rfl, _, rfl, if_t (by simp) ?_⟩
    obtain ⟨dtk6, mx6, md6, fd6, ld6, mkv6, a1, a2, a3, a4, ⟨a5, kvs6, a6, a7⟩, a8⟩ := (tk5.same s6).ex
    have kl : kvs6.length = F.length := a7.1
    refine ⟨_, rfl, tk, _, dtk6, _, _, rfl, a1, T.c_TakeOff, T.n_TakeOff_found, rfl, fd6, kvs6, rfl, a6, rowq_keys a7, fun p1 hp1 => ?_⟩
    have u7 := same_upd (o := .lst (kvs6.map fun e => V.ref e.2.1)) hp1
    refine ⟨p1, _, (keys F).map entD, rfl, SqL.of upd_same, RpAll.at u7.tups _ _ (rpall_of a7), ?_, ?_, fun p2 zs hp2 hzl => ?_⟩
    · intro x hx y hy
      obtain ⟨e, _, rfl⟩ := List.mem_map.mp hx
      obtain ⟨e', _, rfl⟩ := List.mem_map.mp hy
      exact entD_alike ..
    · intro x hx
      obtain ⟨e, _, rfl⟩ := List.mem_map.mp hx
      exact ⟨⟨_, _, rfl⟩, entD_depth ..⟩
    · have u8 := same_upd (o := .lst zs) hp2
      refine ⟨p2, zs, rfl, .inl ⟨SqL.of upd_same, fun p3 hp3 => ?_⟩⟩
      have u9 := same_upd (o := .tup zs) hp3
      have s69 := (u7.trans u8).trans u9
      have s59 := s6.trans s69
      refine ⟨_, rfl, _, rfl, hx, fd, A, R, _, rfl, hd5.same s59, hN s59, rn.same s59, ch.nd, cl, no, R20, fun t H7 s7 => ⟨(by show 3 ≤ sizeLine; decide), fun t3 ht3 => ⟨(by show 2 ≤ sizeLine; decide), fun t2 ht2 => ?_⟩⟩⟩
      refine fin t2 (.ref t3) false _ upd_same ⟨fun z => (by cases z), fun z => ?_⟩
      exact absurd z (ring_no hc wh hA.symm ch cl no)
  · -- a ring
    have yes : Ring M μ (s, c) := ring_yes hc tab hA.symm ch hR' hmA e bk
    refine ⟨_, rfl, rfl, _, rfl, if_f (by simp) ?_⟩
    have s46 := s5.trans s6
    refine ⟨_, rfl, _, rfl, t, _, _, _, rfl, rfl, SqT.of ht, rfl, fd, .ref hb, A, (s, c), R, h, rfl, rn.same s6, ch, A20, rhb, hR', fun lw yw mw H7 s7 hlw0 hlw hyw hmw mwl => ?_⟩
    have ht7 := s7 _ _ ht
    have rn7 := rn.same (s6.trans s7)
    obtain ⟨kvs7, hfd7, al7⟩ := id rn7
    obtain ⟨b1, eb1, hb1⟩ := hd_at (Rp.at s7.tups _ _ rhb)
    cases eb1
    refine ⟨_, rfl, t, _, _, _, rfl, rfl, SqT.of ht7, rfl, ?_⟩
    obtain ⟨i0, o0, hi0⟩ := rks_at hR'
    refine ⟨fun m σ H8 => H7 = H8 ∧ ∃ (h : Hd) (o : Option (Hd × Move)) (b : Addr), R[m]? = some (h, o) ∧ H7 b = some (.tup ((k2 h.1 h.2).map kV)) ∧ σ = [some (.ref mx), some (.ref mt), some (.ref ct), some (.ref tk), some (.ref hx), some (.ref bd), some (.ref fd), some (.ref t), some (.ref lw), some (.ref b), none, none, none, none, none],
      ⟨i0, rfl, h, o0, hb, hi0, hb1, rfl⟩, ?_⟩
    rintro mm σ _ ⟨rfl, h', o, b, hm', hbb, rfl⟩
    obtain ⟨v, hv, rv⟩ := rn_at al7 ch.nd hm'
    have g : DGet H7 fd (.ref b) (some v) := by rw [← hv]; exact DGet.t hfd7 hbb
    refine ⟨_, rfl, _, rfl, fd, v, rfl, g, ?_⟩
    rcases ch.of mm _ hm' with ⟨e1, e2⟩ | ⟨h2, mv, e1, _, _, j, hj, hRj⟩
    · have e1 : o = none := e1
      subst e1
      have e2 : h' = (s, c) := e2
      subst e2
      cases (show v = V.non from rv)
      refine ⟨rfl, _, rfl, if_f (by decide +kernel) ?_⟩
      have s47 := s46.trans s7
      have hbd7 := s47 _ _ hbd4
      have hz7 := s47 _ _ hz4
      obtain ⟨dtk7, mx7, md7, fd7, ld7, mkv7, a1, a2, a3, a4, ⟨a5, kq, a6, a7⟩, a8⟩ := (tk5.same (s6.trans s7)).ex
      refine ⟨_, rfl, tk, _, dtk7, _, _, rfl, a1, T.c_TakeOff, T.n_TakeOff_found, rfl, fun rw drw w1 w2 w3 => ⟨rw, drw, fd7, F, kq, H7, rfl, made w1 w2, w1, upd_same, a6, a7, fun pd ld H8 s8 pd0 ld0 hR8 => ⟨rfl, ?_⟩⟩⟩
      have kp : ∀ {H9 : Hp}, SameB (fun x => x = pd ∨ x = ld) H8 H9 → Same H7 H9 := fun sb => same_b s8 sb fun c z => by
        rcases z with rfl | rfl
        · exact pd0
        · exact ld0
      have gz : ∀ {H9 : Hp}, Same H7 H9 → DGet H9 bd (.ref b) (some (.ref z)) := fun {H9} s9 => by
        have : valV [(k2 s c, V.ref z)] (k2 s c) = some (V.ref z) := by simp [valV]
        rw [← this]
        exact DGet.t (s9 _ _ hbd7) (s9 _ _ hbb)
      refine ⟨_, rfl, _, rfl, bd, .ref z, rfl, gz s8, z, rfl, ⟨_, SqT.of (s8 _ _ hz7)⟩, for_it (walk_tup (K := K) (a := z) (xs := [])) (fun j σ H9 => H8 = H9 ∧ σ = [some (.ref mx), some (.ref mt), some (.ref ct), some (.ref tk), some (.ref hx), some (.ref bd), some (.ref fd), some (.ref t), some (.ref lw), some (.ref b), some (.ref rw), none, none, none, none])
        ⟨rfl, rfl⟩ (fun j σ H9 _ ⟨y, _⟩ => by rw [← y]; exact SqT.of (s8 _ _ hz7)) ?_ ?_⟩
      · rintro j yv σ _ H9 hj
        exact absurd hj (Nat.not_lt_zero _)
      rintro σ _ ⟨rfl, rfl⟩
      refine ⟨_, rfl, _, rfl, bd, .ref z, rfl, gz s8, z, rfl, ⟨_, SqT.of (s8 _ _ hz7)⟩, fun D hD => ?_⟩
      have u9 := same_upd (o := .lst []) hD
      refine lc_it (walk_tup (K := K) (a := z) (xs := [])) (fun j H9 => H9 = upd H8 D (.lst [])) rfl (fun j H9 _ y => by rw [y]; exact SqT.of (u9 _ _ (s8 _ _ hz7))) ?_ ?_
      · rintro j yv σ _ hj
        exact absurd hj (Nat.not_lt_zero _)
      rintro _ rfl
      refine ⟨D, _, rfl, .inl ⟨SqL.of upd_same, fun q hq => ?_⟩⟩
      have s9 := u9.new (o := .tup []) hq
      have hR9 := hR8.same s9
      have sb9 : SameB (fun x => x = pd ∨ x = ld) H8 _ := s9.b
      generalize upd (upd H8 D (.lst [])) q (.tup []) = H9 at *
      have s79 := kp sb9
      have nlw : lw ≠ ld := ne_of_none hlw ld0
      refine ⟨_, rfl, _, rfl, rw, fd7, pd, ld, lw, yw, mw, F, [], M, μ, rfl, hR9, s79 _ _ hlw, RpAll.at s79.tups _ _ hyw, fun m hm e he => ?_, nlw, by omega, fun e z => by simp at z, List.nodup_nil, tab, by omega, fun v1 pl1 H10 sb10 hR10 sub10 nd10 => ?_⟩
      · obtain ⟨h3, z⟩ := hmw m hm
        rw [← hA] at z
        exact all_ent z he
      have s710 := kp (sb9.trans sb10)
      have ht10 := s710 _ _ ht7
      refine ⟨_, rfl, _, rfl, t, _, _, _, rfl, rfl, SqT.of ht10, rfl, (by show 1 ≤ sizeLine; decide), fun l1 hl1 => ?_⟩
      have u11 := same_upd (o := .lst [V.ref mb]) hl1
      have hl7 := s7 _ _ hl
      have ysl : ys.length = mz.length := by rw [hys.len, List.length_map]
      refine ⟨_, rfl, t, _, _, _, rfl, rfl, SqT.of (u11 _ _ ht10), rfl, l1, l, _, _, rfl, rfl, upd_same, u11 _ _ (s710 _ _ hl7), small (by show 1 + ys.length ≤ 100000; omega), fun l2 hl2 => ?_⟩
      have u12 := u11.new (o := .lst ([V.ref mb] ++ ys)) hl2
      have s712 := s710.trans u12
      have nl2 : l2 ≠ ld := by
        obtain ⟨_, _, _, _, _, _, _, _, _, _, q6, _⟩ := hR10
        exact Ne.symm (ne_of_none (u11 _ _ q6) hl2)
      refine ⟨rw, fd7, pd, ld, l2, [V.ref mb] ++ ys, m :: mz, F, pl1, M, μ, rfl, hR10.same u12, upd_same, .cons (Rp.at (s7.trans s712).tups _ _ rmb) (RpAll.at (s7.trans s712).tups _ _ hys), fun m' hm2 e' he => ?_, nl2, by rw [List.length_cons]; omega, sub10, nd10, tab, by omega, fun v2 pl2 H13 sb13 hR13 sub13 nd13 => ?_⟩
      · rcases List.mem_cons.mp hm2 with rfl | hm2
        · rw [← hA] at hmA
          exact all_ent hmA he
        · obtain ⟨h3, z⟩ := hms' m' hm2
          rw [← hA] at z
          exact all_ent z he
      obtain ⟨_, dx13, _, _, rvs, q1, _, _, _, _, q6, _⟩ := hR13
      refine ⟨_, rfl, rw, _, dx13, _, _, rfl, q1, T.c_Rows, T.n_Rows_rows, rfl, ld, rvs, rfl, .inl ⟨SqL.of q6, fun q1 hq1 => ⟨_, rfl, _, rfl, _, rfl, (by show 5 ≤ sizeLine; decide), fun t5 ht5 => ⟨(by show 2 ≤ sizeLine; decide), fun t2 ht2 => fin t2 (.ref t5) true _ upd_same ⟨fun _ => yes, fun _ => rfl⟩⟩⟩⟩⟩
    · have e1 : o = some (h2, mv) := e1
      subst e1
      obtain ⟨u, _, rfl, hu, v1, _, rfl, r1, v2, _, rfl, r2, rfl⟩ := id rv
      obtain ⟨b2, rfl, hb2⟩ := hd_at r1
      obtain ⟨y, hy, hy2⟩ := Option.map_eq_some_iff.mp hRj
      refine ⟨rfl, _, rfl, if_t (by simp) ⟨_, fun _ _ h => h, ?_⟩⟩
      refine ⟨_, rfl, _, rfl, fd, _, rfl, g, u, _, _, _, rfl, rfl, SqT.of hu, rfl, ?_⟩
      exact ⟨j, hj, rfl, h2, y.2, b2, by rw [hy, ← hy2], hb2, rfl⟩
end
end Pr
/-! passes_ever. -/
namespace Pr
open PySem PySem.Spec PyProof.Rows L2 RT
open C8 (Cal Met Mak pe_c pe_mk pe_mt pe_mt0)
theorem mach_len {G : Prog} (ok : G.Ok) : G.mach.length ≤ 1000 := by
  unfold Prog.mach
  have hN4 : 2 ^ G.gc ≤ 4 := Nat.pow_le_pow_right (n := 2) (by decide) ok.gc
  have h1 := flat_len (fun l => (List.range (2 ^ G.gc)).flatMap fun s => G.steps1 l s) (2 ^ G.gc * 2) G.frames.length fun l => flat_len _ 2 _ fun s => steps1_len
  have : G.frames.length * (2 ^ G.gc * 2) ≤ 20 * 8 := Nat.mul_le_mul ok.frs20 (by omega)
  omega
section
variable {P : Program} {w : World} {K : PySem.W.Frag} {mg : Str → Option Value} {base : Heap}
def sp_pever (K : PySem.W.Frag) : Sp := fun vs H Q _ => ∃ (pg : Addr) (pl : Nat) (G : Prog), vs = [.ref pg, .int pl] ∧ PgAt K H pg G ∧ G.Ok ∧ ∀ (t : Addr) (u : V) (b : Bool) (H' : Hp), H' t = some (.tup [.bl b, u]) → (b = true ↔ HdRing G pl) → Q (.ref t) H'
abbrev n_passes_ever : List Str := ["program", "place", "machine"]
theorem sc_passes_ever : FnScope n_passes_ever ["program", "place"] (defScope s_passes_ever) := ⟨rfl, rfl, rfl, by decide +kernel, rfl, by decide +kernel, by decide +kernel⟩
theorem ok_pever (T : Env K mg) (c_machine_of : Cal P w K mg base 13 "machine_of" (sp_macho K) []) (c_place_marks : Cal P w K mg base 14 "place_marks" (sp_marks K) []) (c_begin : Cal P w K mg base 11 "begin" (sp_begin K) []) (c_configuration_of : Cal P w K mg base 13 "configuration_of" (sp_conf K) [])
    (c_endless : Cal P w K mg base 5 "endless" (sp_endless K) []) : Cal P w K mg base 15 "passes_ever" (sp_pever K) [] := by
  obtain ⟨fd, F⟩ := T.F_passes_ever
  refine cal_by F T.g_passes_ever (F.bindsN fun _ _ _ _ _ _ us hl => match us, hl with | [_, _], _ => rfl) sc_passes_ever (fun vs H Q E h => ?_) (fun cdv A outer s H vs Q E hr h => ?_)
  · obtain ⟨pg, pl, G, rfl, _⟩ := h
    rfl
  obtain ⟨pg, pl, G, rfl, hpg, ok, k⟩ := h
  refine ⟨_, pss_cons (ps_set (i := 2) sc_passes_ever.nd rfl (Or.inl rfl) (pe_c c_machine_of hr (by omega) rfl (pa_cons (pv 0) pa_nil)))
      (pss_one (ps_ret (pe_c c_endless hr (by omega) rfl (pa_cons (pv 2) (pa_cons (pe_c c_place_marks hr (by omega) rfl (pa_cons (pv 0) (pa_cons (pv 1) pa_nil))) (pa_cons (pe_c c_configuration_of hr (by omega) rfl (pa_cons (pv 0) (pa_cons (pe_c c_begin hr (by omega) rfl (pa_cons (pv 0) pa_nil)) pa_nil))) pa_nil)))))), ?_⟩
  have N4 : 2 ^ G.gc ≤ 4 := Nat.pow_le_pow_right (n := 2) (by decide) ok.gc
  have M1 := mach_len ok
  have m1 := marks_len (G := G) (pl := pl)
  refine ⟨_, rfl, pg, G, rfl, hpg, ok, fun mx H1 s1 hm => ?_⟩
  refine ⟨_, rfl, _, rfl, _, rfl, pg, pl, G, rfl, hpg.same s1, ok, fun r H2 s2 hr => ?_⟩
  have s12 := s1.trans s2
  refine ⟨_, rfl, _, rfl, pg, G, rfl, hpg.same s12, ok, fun v H3 s3 hv => ?_⟩
  have s13 := s12.trans s3
  refine ⟨pg, v, G.begin, G, rfl, hpg.same s13, ok, hv, begin_ok ok, (by show 1 ≤ 1000; decide), fun t p H4 s4 ht hp => ?_⟩
  have s24 := (s2.trans s3).trans s4
  exact ⟨mx, r, t, p, num (falses G.gc), G.letter (G.entry 0), G.mach, G.marks pl, fun i => decide (i ∈ G.marks pl), atL G pl, 2 ^ G.gc, G.frames.length, rfl, hm.same s24, (s3.trans s4) _ _ hr, fun _ => rfl, by omega, mch_of ok pl, N4, ok.frs20, M1, ht, hp, k⟩
end
end Pr
/-! The law's own search. -/
namespace Pr
open PySem PySem.Spec PyProof.Rows L2
open C8 (Cal Met Mak pe_c pe_mk pe_mt pe_mt0)
def edD (e : Nat × Nat) : PyData := .tuple [.int e.1, .int e.2]
section
variable {P : Program} {w : World} {K : PySem.W.Frag} {mg : Str → Option Value} {base : Heap}
def sp_world : Sp := fun vs H Q _ => ∃ (a t : Addr) (G : Prog), vs = [.ref a, .ref t, .int 80] ∧ LawProg H a G ∧ Told H t G ∧ G.Ok ∧
  ∀ (r pl el : Addr) (ps : List Sit) (ed : List (Nat × Nat)) (n : Nat) (xs ys : List V) (H' : Hp), Same H H' → H' r = some (.lst [.ref pl, .ref el]) → H' pl = some (.lst xs) → RpAll H' (ps.map sitD) xs → H' el = some (.lst ys) → RpAll H' (ed.map edD) ys →
    Wd G ps ed n 0 → (n = ps.length ∨ 80 < ps.length) → ps.length ≤ 1000 → Q (.ref r) H'
abbrev n__law_world : List Str := ["_law_program_here", "_law_told", "_law_most", "_law_places", "_law_edges", "_law_at", "_law_following"]
theorem sc__law_world : FnScope n__law_world ["_law_program_here", "_law_told", "_law_most"] (defScope s__law_world) := ⟨rfl, rfl, rfl, by decide +kernel, rfl, by decide +kernel, by decide +kernel⟩
theorem any_sit (ps : List Sit) (s : Sit) : ((ps.map sitD).any fun z => PyData.eqv z (sitD s)) = decide (s ∈ ps) := by
  induction ps with
  | nil => simp
  | cons a r ih =>
    rw [List.map_cons, List.any_cons, ih, eqv_sit]
    by_cases h : a = s
    · subst h; simp
    · have h' : ¬ s = a := fun e => h e.symm
      simp [h, h']
theorem ok_world (T : Env K mg) (c__law_first : Cal P w K mg base 2 "_law_first" sp_first []) (c__law_after : Cal P w K mg base 6 "_law_after" sp_after []) : Cal P w K mg base 7 "_law_world" sp_world [] := by
  obtain ⟨fd, F⟩ := T.F__law_world
  refine cal_by F T.g__law_world (F.bindsN fun _ _ _ _ _ _ us hl => match us, hl with | [_, _, _], _ => rfl) sc__law_world (fun vs H Q E h => ?_) (fun cdv A outer s H vs Q E hr h => ?_)
  · obtain ⟨a, t, G, rfl, _⟩ := h
    rfl
  obtain ⟨a, t, G, rfl, hG, hT, ok, k⟩ := h
  have hu65 : (A.deeper (envOfC "_law_world" (defScope s__law_world) s.heap.objs.size (He.ga K "_law_world") cdv)).units + 65 < cLine := by have := hr.un; omega
  refine ⟨_, pss_cons (ps_set (i := 3) sc__law_world.nd rfl (Or.inl rfl) (pe_lst (pa_cons (pe_c c__law_first hr (by omega) rfl (pa_cons (pv 0) (pa_cons (pv 1) pa_nil))) pa_nil)))
      (pss_cons (ps_set (i := 4) sc__law_world.nd rfl (Or.inl rfl) (pe_lst pa_nil))
      (pss_cons (ps_set (i := 5) sc__law_world.nd rfl (Or.inl rfl) pe_int)
      (pss_cons (ps_while PassesOwn.never (PW.pt (pw_and (pt_cmpR op_lt (pv 5) (pe_callB call_len_seq (by rfl) T.f_len (by decide +kernel) (pa_cons (pv 3) pa_nil)) (nomark _)) (pw_and1 (pt_cmpR op_le (pe_callB call_len_seq (by rfl) T.f_len (by decide +kernel) (pa_cons (pv 3) pa_nil)) (pv 2) (nomark _)))))
        (pss_cons (ps_for PassesOwn.never rfl (pi_list (pe_c c__law_after hr (by omega) rfl (pa_cons (pv 0) (pa_cons (pv 1) (pa_cons (pe_ix ix_list (pv 3) (pv 5) (fun _ _ => rfl)) pa_nil))))) (pg_name (i := 6) sc__law_world.nd rfl (Or.inl rfl))
          (C8.pss_cut (ps_if (pt_cmpR (op_notInD hu65) (pv 6) (pv 3) (by rfl))
            (pss_one (ps_expr (pe_bm PySem.F.plainAttrs_list PySem.F.slot_list_append PySem.F.type_list_append mt_append (pv 3) (pa_cons (pv 6) pa_nil))))
            pss_nil)
          (pss_one (ps_expr (pe_bm PySem.F.plainAttrs_list PySem.F.slot_list_append PySem.F.type_list_append mt_append (pv 4) (pa_cons (pe_tup (pa_cons (pv 5) (pa_cons (pe_bm PySem.F.plainAttrs_list PySem.F.slot_list_index PySem.F.type_list_index (mt_indexD hu65) (pv 3) (pa_cons (pv 6) pa_nil)) pa_nil))) pa_nil))))))
        (pss_one (ps_set (i := 5) sc__law_world.nd rfl (Or.inl rfl) (pe_op op_add (pv 5) pe_int)))))
      (pss_one (ps_ret (pe_lst (pa_cons (pv 3) (pa_cons (pv 4) pa_nil)))))))), ?_⟩
  refine ⟨_, rfl, _, rfl, a, t, G, rfl, hG, hT, ok, fun fv H1 s1 rf => ⟨(by show 1 ≤ sizeLine; decide), fun pl hpl => ⟨Nat.zero_le _, fun el hel => ?_⟩⟩⟩
  have hpl0 : H pl = none := s1.free hpl
  have hel0 : H el = none := (s1.new hpl).free hel
  have npe : pl ≠ el := ne_of_none (H := upd H1 pl (.lst [fv])) upd_same hel
  refine while_by (fun σ H2 => ∃ (n : Nat) (x6 : Option V) (ps : List Sit) (ed : List (Nat × Nat)) (xs ys : List V), σ = [some (.ref a), some (.ref t), some (.int 80), some (.ref pl), some (.ref el), some (.int n), x6] ∧ Same H H2 ∧ H2 pl = some (.lst xs) ∧ RpAll H2 (ps.map sitD) xs ∧
      H2 el = some (.lst ys) ∧ RpAll H2 (ed.map edD) ys ∧ Wd G ps ed n 0 ∧ ps.length ≤ 82 ∧ n ≤ 80 + 1 ∧ ed.length ≤ 2 * n)
    (fun (σ : L2.St) (_ : Hp) => match σ[5]? with | some (some (V.int z)) => (100 - z).toNat | _ => 0) ⟨0, _, [G.begin], [], [fv], [], rfl, (s1.new hpl).new hel, same_upd hel _ _ upd_same, RpAll.at (Same.tups ((same_upd hpl).new hel)) _ _ (.one rf), upd_same, rfl, Wd.start ok, by simp, by decide, by simp⟩ ?_ ?_
  · rintro σ H2 ⟨n, x6, ps, ed, xs, ys, rfl, sm, hx, rx, hy, ry, wd, hpl82, hn, hed⟩
    have hxl : xs.length = ps.length := by rw [rx.len, List.length_map]
    have hyl : ys.length = ed.length := by rw [ry.len, List.length_map]
    refine ans_and2 (b1 := decide ((n : Int) < (xs.length : Nat))) (b2 := decide (((xs.length : Nat) : Int) ≤ 80)) (fun Q q => ⟨_, rfl, _, rfl, pl, _, rfl, .inl (SqL.of hx), _, _, rfl, rfl, _, rfl, q⟩) (fun Q q => ⟨_, rfl, pl, _, rfl, .inl (SqL.of hx), _, rfl, _, _, rfl, rfl, _, rfl, q⟩) _ ?_
    refine ite2 (fun c => ?_) (fun c => ?_)
    · have c12 := Bool.and_eq_true_iff.mp c
      have c1 : (n : Int) < (xs.length : Nat) := of_decide_eq_true c12.1
      have c2 : ((xs.length : Nat) : Int) ≤ 80 := of_decide_eq_true c12.2
      have hnl : n < ps.length := by omega
      obtain ⟨st, hst⟩ : ∃ st, ps[n]? = some st := ⟨_, List.getElem?_eq_getElem hnl⟩
      obtain ⟨sv, hsv, rs⟩ := rx.get (i := n) (d := sitD st) (by rw [List.getElem?_map, hst]; rfl)
      have hl1 := wd.len n st hst
      refine ⟨_, rfl, _, rfl, _, rfl, _, rfl, pl, _, _, _, rfl, rfl, SqL.of hx, atI_nat hsv, ?_⟩
      refine ⟨a, t, sv, G, st, rfl, hG.same sm, hT.same sm, ok, rs, wd.ok st (List.mem_of_getElem? hst), by omega, fun l zs H3 s3 hl0 hl rz => ?_⟩
      have nlp : l ≠ pl := fun e => by rw [e, hx] at hl0; cases hl0
      have nle : l ≠ el := fun e => by rw [e, hy] at hl0; cases hl0
      have hzl : zs.length = (sucs G st).length := by rw [rz.len, List.length_map]
      have hs2 := sucs_len (G := G) st
      refine ⟨l, rfl, ⟨_, SqL.of hl⟩, ?_⟩
      refine for_it (walk_list (K := K) (a := l) (xs := zs)) (fun j σ H4 => ∃ (x6 : Option V) (ps : List Sit) (ed : List (Nat × Nat)) (xs ys : List V), σ = [some (.ref a), some (.ref t), some (.int 80), some (.ref pl), some (.ref el), some (.int n), x6] ∧ Same H H4 ∧ H4 pl = some (.lst xs) ∧ RpAll H4 (ps.map sitD) xs ∧
          H4 el = some (.lst ys) ∧ RpAll H4 (ed.map edD) ys ∧ Wd G ps ed n j ∧ ps.length ≤ 80 + j ∧ ed.length ≤ 2 * n + j ∧ H4 l = some (.lst zs) ∧ RpAll H4 ((sucs G st).map sitD) zs ∧ ps[n]? = some st)
        ⟨_, ps, ed, xs, ys, rfl, sm.trans s3, s3 _ _ hx, RpAll.at s3.tups _ _ rx, s3 _ _ hy, RpAll.at s3.tups _ _ ry, wd, by omega, by omega, hl, rz, hst⟩ (fun j σ H4 _ ⟨_, _, _, _, _, _, _, _, _, _, _, _, _, _, z, _⟩ => SqL.of z) ?_ ?_
      · rintro j u σ _ H4 hj ⟨x6, ps, ed, xs, ys, rfl, sm, hx, rx, hy, ry, wd, hp, he, hl, rz, hst⟩ ⟨rfl, huj⟩
        have hxl : xs.length = ps.length := by rw [rx.len, List.length_map]
        have hyl : ys.length = ed.length := by rw [ry.len, List.length_map]
        obtain ⟨d, hdj, ru⟩ := rz.getV huj
        rw [List.getElem?_map] at hdj
        obtain ⟨s', hs', rfl⟩ := Option.map_eq_some_iff.mp hdj
        have j2 : j < 2 := by omega
        -- a place that stands there: the edge to it
        have edge : ∀ (ps' : List Sit) (xs' : List V) (m : Nat) (H5 : Hp), Same H H5 → H5 pl = some (.lst xs') → RpAll H5 (ps'.map sitD) xs' → H5 el = some (.lst ys) → RpAll H5 (ed.map edD) ys → H5 l = some (.lst zs) → RpAll H5 ((sucs G st).map sitD) zs → Rp H5 (sitD s') u → ps'[m]? = some s' → ps'.Nodup → Wd G ps' (ed ++ [(n, m)]) n (j + 1) → ps'.length ≤ 80 + (j + 1) → ps'[n]? = some st → 
            ∀ q, H5 q = none → (upd H5 q (.tup [.int n, .int m])) el = some (.lst ys) ∧ ys.length < sizeLine ∧ (∃ (x6 : Option V) (ps : List Sit) (ed : List (Nat × Nat)) (xs ys2 : List V), [some (V.ref a), some (V.ref t), some (V.int 80), some (V.ref pl), some (V.ref el), some (V.int n), some u] = [some (.ref a), some (.ref t), some (.int 80), some (.ref pl), some (.ref el), some (.int n), x6] ∧ Same H (upd (upd H5 q (.tup [.int n, .int m])) el (.lst (ys ++ [.ref q]))) ∧ (upd (upd H5 q (.tup [.int n, .int m])) el (.lst (ys ++ [.ref q]))) pl = some (.lst xs) ∧ RpAll (upd (upd H5 q (.tup [.int n, .int m])) el (.lst (ys ++ [.ref q]))) (ps.map sitD) xs ∧
              (upd (upd H5 q (.tup [.int n, .int m])) el (.lst (ys ++ [.ref q]))) el = some (.lst ys2) ∧ RpAll (upd (upd H5 q (.tup [.int n, .int m])) el (.lst (ys ++ [.ref q]))) (ed.map edD) ys2 ∧ Wd G ps ed n (j + 1) ∧ ps.length ≤ 80 + (j + 1) ∧ ed.length ≤ 2 * n + (j + 1) ∧ (upd (upd H5 q (.tup [.int n, .int m])) el (.lst (ys ++ [.ref q]))) l = some (.lst zs) ∧ RpAll (upd (upd H5 q (.tup [.int n, .int m])) el (.lst (ys ++ [.ref q]))) ((sucs G st).map sitD) zs ∧ ps[n]? = some st) := by
          intro ps' xs' m H5 sm5 hx5 rx5 hy5 ry5 hl5 rz5 ru5 hm nd' wd' hp' hst' q hq
          have e6 := same_upd (o := .tup [V.int n, V.int m]) hq
          have hy6 := e6 _ _ hy5
          have t7 : Tups (upd H5 q (.tup [.int n, .int m])) (upd (upd H5 q (.tup [.int n, .int m])) el (.lst (ys ++ [.ref q]))) := tups_lst hy6
          have up : ∀ {ds vs}, RpAll H5 ds vs → RpAll (upd (upd H5 q (.tup [.int n, .int m])) el (.lst (ys ++ [.ref q]))) ds vs := fun r => RpAll.at t7 _ _ (RpAll.at e6.tups _ _ r)
          refine ⟨hy6, smallL (by omega), ⟨_, ps', ed ++ [(n, m)], xs', ys ++ [.ref q], rfl, (sm5.new hq).mut hel0, ?_, up rx5, upd_same, ?_, wd', hp', by rw [List.length_append, List.length_singleton]; omega, ?_, up rz5, hst'⟩⟩
          · rw [upd_ne npe]; exact e6 _ _ hx5
          · rw [List.map_append]
            exact (up ry5).snoc ⟨q, _, rfl, by rw [upd_ne (ne_of_none hy5 hq).symm]; exact upd_same, .cons rfl (.one rfl)⟩
          · rw [upd_ne nle]; exact e6 _ _ hl5
        -- the index of a place
        have index : ∀ (ps' : List Sit) (xs' : List V) (m : Nat) (H5 : Hp), H5 pl = some (.lst xs') → RpAll H5 (ps'.map sitD) xs' → Rp H5 (sitD s') u → ps'[m]? = some s' → ps'.Nodup → Dp K H5 (.ref pl) (.list (ps'.map sitD)) ∧ Dp K H5 u (sitD s') ∧ SeqAt.shaped (.list (ps'.map sitD)) = true ∧ SeqAt.shaped (sitD s') = true ∧ (ps'.map sitD)[m]? = some (sitD s') ∧ PyData.eqv (sitD s') (sitD s') = true ∧
            ∀ (i : Nat) (z' : PyData), i < m → (ps'.map sitD)[i]? = some z' → PyData.eqv z' (sitD s') = false := by
          intro ps' xs' m H5 hx5 rx5 ru5 hm nd'
          refine ⟨.lst (SqL.of hx5) (RpAll.dp _ _ rx5), Rp.dp _ _ ru5, shaped_sits ps', shaped_sit s', by rw [List.getElem?_map, hm]; rfl, by rw [eqv_sit]; simp, fun i z' hi hz => ?_⟩
          rw [List.getElem?_map] at hz
          obtain ⟨y, hy, rfl⟩ := Option.map_eq_some_iff.mp hz
          rw [eqv_sit]
          refine decide_eq_false fun e => ?_
          subst e
          obtain ⟨i1, i2⟩ := List.getElem?_eq_some_iff.mp hy
          obtain ⟨m1, m2⟩ := List.getElem?_eq_some_iff.mp hm
          have := (List.getElem_inj nd').mp (i2.trans m2.symm)
          omega
        refine ⟨fun σ' H' => ∃ (ps' : List Sit) (xs' : List V) (m : Nat), σ' = [some (V.ref a), some (V.ref t), some (V.int 80), some (V.ref pl), some (V.ref el), some (V.int n), some u] ∧ Same H H' ∧ H' pl = some (.lst xs') ∧ RpAll H' (ps'.map sitD) xs' ∧ H' el = some (.lst ys) ∧ RpAll H' (ed.map edD) ys ∧ H' l = some (.lst zs) ∧ RpAll H' ((sucs G st).map sitD) zs ∧ Rp H' (sitD s') u ∧ ps'[m]? = some s' ∧ ps'.Nodup ∧ Wd G ps' (ed ++ [(n, m)]) n (j + 1) ∧ ps'.length ≤ 80 + (j + 1) ∧ ps'[n]? = some st, ?_, ?_⟩
        · refine ⟨_, rfl, _, rfl, sitD s', ps.map sitD, Rp.dp _ _ ru, .lst (SqL.of hx) (RpAll.dp _ _ rx), shaped_sit s', shaped_sits ps, _, rfl, ?_⟩
          rw [any_sit]
          by_cases hm : s' ∈ ps
          · rw [decide_eq_true hm]
            refine iteF ?_
            obtain ⟨m, hm1, hm2⟩ := List.mem_iff_getElem.mp hm
            have hm3 : ps[m]? = some s' := by rw [List.getElem?_eq_getElem hm1, hm2]
            exact ⟨ps, xs, m, rfl, sm, hx, rx, hy, ry, hl, rz, ru, hm3, wd.nd, wd.old hst hs' hm3, by omega, hst⟩
          · rw [decide_eq_false hm]
            refine iteT ?_
            refine ⟨_, rfl, .inl ⟨rfl, _, SqL.of hx⟩, _, rfl, pl, _, _, rfl, rfl, hx, smallL (by omega), ?_⟩
            have tp := tups_lst (o := .lst (xs ++ [u])) hx
            have w2 := wd.new ok hst hs' hm
            refine ⟨ps ++ [s'], xs ++ [u], ps.length, rfl, sm.mut hpl0, upd_same, ?_, by rw [upd_ne (Ne.symm npe)]; exact hy, RpAll.at tp _ _ ry, by rw [upd_ne nlp]; exact hl, RpAll.at tp _ _ rz, Rp.at tp _ _ ru, by simp, w2.nd, w2, by rw [List.length_append, List.length_singleton]; omega, by rw [List.getElem?_append_left (List.getElem?_eq_some_iff.mp hst).1]; exact hst⟩
            rw [List.map_append]
            exact RpAll.at tp _ _ (rx.snoc ru)
        · rintro σ' H' ⟨ps', xs', m, rfl, sm5, hx5, rx5, hy5, ry5, hl5, rz5, ru5, hm, nd', wd', hp', hst'⟩
          obtain ⟨i1, i2, i3, i4, i5, i6, i7⟩ := index ps' xs' m H' hx5 rx5 ru5 hm nd'
          refine ⟨_, rfl, .inl ⟨rfl, _, SqL.of hy5⟩, _, rfl, _, rfl, .inl ⟨rfl, _, SqL.of hx5⟩, _, rfl, pl, u, sitD s', ps'.map sitD, m, sitD s', rfl, rfl, i1, i2, i3, i4, i5, i6, i7, (by show 2 ≤ sizeLine; decide), fun q hq => ?_⟩
          obtain ⟨e1, e2, e3⟩ := edge ps' xs' m H' sm5 hx5 rx5 hy5 ry5 hl5 rz5 ru5 hm nd' wd' hp' hst' q hq
          exact ⟨el, _, _, rfl, rfl, e1, e2, e3⟩
      · rintro σ H4 ⟨x6, ps, ed, xs, ys, rfl, sm, hx, rx, hy, ry, wd, hp, he, hl, rz, hst⟩
        refine ⟨_, rfl, _, _, rfl, rfl, ?_⟩
        refine ⟨⟨n + 1, x6, ps, ed, xs, ys, ?_, sm, hx, rx, hy, ry, wd.next hst (by omega), by omega, by omega, by omega⟩, ?_⟩
        · show [_, _, _, _, _, some (V.int ((n : Int) + 1)), _] = _
          rw [Int.natCast_add]
          rfl
        · show ((100 : Int) - ((n : Int) + 1)).toNat < ((100 : Int) - (n : Int)).toNat
          omega
    · refine ⟨_, rfl, _, rfl, (by show 2 ≤ sizeLine; decide), fun r hr2 => ?_⟩
      have e3 := same_upd (o := .lst [V.ref pl, V.ref el]) hr2
      refine k r pl el ps ed n xs ys _ (sm.new hr2) upd_same (e3 _ _ hx) (RpAll.at e3.tups _ _ rx) (e3 _ _ hy) (RpAll.at e3.tups _ _ ry) wd ?_ (by omega)
      by_cases c1 : n < ps.length
      · right
        have : ¬ (((xs.length : Nat) : Int) ≤ 80) := fun z => c (by rw [decide_eq_true (show (n : Int) < (xs.length : Nat) by omega), decide_eq_true z]; rfl)
        omega
      · left
        have := wd.le
        omega
  · intro σ H Q Q' h q
    obtain ⟨v1, h1, v2, h2, p, ys, e1, e2, i, j, e3, e4, b, e5, X⟩ := q
    refine ⟨v1, h1, v2, h2, p, ys, e1, e2, i, j, e3, e4, b, e5, ?_⟩
    cases b with
    | false => exact h _ _ X
    | true =>
      obtain ⟨v1, h1, p, ys, e1, e2, v2, h2, i, j, e3, e4, b, e5, X⟩ := X
      exact ⟨v1, h1, p, ys, e1, e2, v2, h2, i, j, e3, e4, b, e5, h _ _ X⟩
end
end Pr
/-! The law's own look at a situation, its search of a ring. -/
namespace Pr
open PySem PySem.Spec PyProof.Rows L2
open C8 (Cal Met Mak pe_c pe_mk pe_mt pe_mt0)
section
variable {P : Program} {w : World} {K : PySem.W.Frag} {mg : Str → Option Value} {base : Heap}
def sp_isat : Sp := fun vs H Q _ => ∃ (t : Addr) (v : V) (G : Prog) (s : Sit) (n : Nat), vs = [.ref t, v, .int n] ∧ Told H t G ∧ G.Ok ∧ Rp H (sitD s) v ∧ SitOk G s ∧ ∀ H', Same H H' → Q (.bl (isAt G s n)) H'
abbrev n__law_is_at : List Str := ["_law_told", "_law_situation", "_law_place"]
theorem sc__law_is_at : FnScope n__law_is_at ["_law_told", "_law_situation", "_law_place"] (defScope s__law_is_at) := ⟨rfl, rfl, rfl, by decide +kernel, rfl, by decide +kernel, by decide +kernel⟩
theorem ok_isat (T : Env K mg) : Cal P w K mg base 1 "_law_is_at" sp_isat [] := by
  obtain ⟨fd, F⟩ := T.F__law_is_at
  refine cal_by F T.g__law_is_at (F.bindsN fun _ _ _ _ _ _ us hl => match us, hl with | [_, _, _], _ => rfl) sc__law_is_at (fun vs H Q E h => ?_) (fun cdv A outer s H vs Q E hr h => ?_)
  · obtain ⟨t, v, G, s, n, rfl, _⟩ := h
    rfl
  obtain ⟨t, v, G, ⟨g, fs⟩, n, rfl, hT, ok, hv, so, k⟩ := h
  obtain ⟨sa, _, rfl, hsa, gv, _, rfl, hgv, fsv, _, rfl, hfs, rfl⟩ := hv
  obtain ⟨fa, fxs, rfl, hfa, hfx⟩ := hfs
  have hfl : fxs.length = fs.length := by rw [hfx.len, List.length_map]
  refine ⟨_, pss_cons (ps_if (pt_cmpR op_eq (pe_callB call_len_seq (by rfl) T.f_len (by decide +kernel) (pa_cons (pe_ix ix_tup (pv 1) pe_int (fun _ _ => rfl)) pa_nil)) pe_int (nomark _))
        (pss_one (ps_ret pe_bl))
        pss_nil)
      (pss_one (ps_ret (pe_cmpR (op_eqD hr.units) (pe_ix ix_list (pe_dget (hu_of hr) (pe_ix ix_list (pv 0) pe_int (fun _ _ => rfl)) (pe_ix ix_tup (pe_ix ix_tup (pe_ix ix_tup (pv 1) pe_int (fun _ _ => rfl)) pe_int (fun _ _ => rfl)) pe_int (fun _ _ => rfl)) (fun _ _ => rfl)) pe_int (fun _ _ => rfl)) (pe_tup (pa_cons pe_str (pa_cons (pv 2) pa_nil))) (nomark _)))), ?_⟩
  refine ⟨_, rfl, sa, _, _, _, rfl, rfl, SqT.of hsa, rfl, fa, fxs, rfl, .inr (SqT.of hfa), rfl, _, rfl, ?_⟩
  cases fs with
  | nil =>
    have e : fxs = [] := List.eq_nil_of_length_eq_zero hfl
    subst e
    exact if_t (by decide +kernel) (k H (Same.refl H))
  | cons f r =>
  obtain ⟨f1v, rvs, rfl, hf1, hrvs⟩ := hfx
  refine if_f (by rw [hfl]; rfl) ?_
  obtain ⟨f1, _, rfl, hf1a, _, _, rfl, rfl, l1v, _, rfl, hl1, rfl⟩ := hf1
  obtain ⟨p, hp, hlc⟩ := so.f f (List.mem_cons_self ..)
  have po := ok.pt hp
  obtain ⟨td, tb, kvs, ht, htd, htb, hpts⟩ := id hT
  obtain ⟨pv0, hpv, pa, en, sv, fv, rfl, _, _, hpa, hen, hsv, hfv⟩ := hpts f.1 p hp
  have fin : ∀ q, H q = none → ∃ d e, Dp K (upd H q (.tup [.str "pass", .int n])) sv d ∧ Dp K (upd H q (.tup [.str "pass", .int n])) (.ref q) e ∧ SeqAt.shaped d = true ∧ SeqAt.shaped e = true ∧ Q (.bl (PyData.eqv d e)) (upd H q (.tup [.str "pass", .int n])) := by
    intro q hq
    have e1 := same_upd (o := .tup [V.str "pass", V.int n]) hq
    have hA : isAt G (g, f :: r) n = isPass n p.stm := by
      show isPass n ((G.pts[f.1]?).bind (·.stm)) = _
      rw [hp]
      rfl
    rw [hA] at k
    cases hs : p.stm with
    | none =>
      rw [hs] at hsv k
      subst hsv
      refine ⟨.none, .tuple [.str "pass", .int n], .non, Rp.dp _ _ ⟨q, _, rfl, upd_same, .cons rfl (.one rfl)⟩, rfl, shaped_pass n, ?_⟩
      exact k _ e1
    | some st =>
      rw [hs] at hsv k
      obtain ⟨sok, sdp, _⟩ := po.stm st hs
      refine ⟨_, .tuple [.str "pass", .int n], Rp.dp _ _ (Rp.at e1.tups _ _ hsv), Rp.dp _ _ ⟨q, _, rfl, upd_same, .cons rfl (.one rfl)⟩, shaped_sm sok sdp, shaped_pass n, ?_⟩
      rw [eqv_pass]
      exact k _ e1
  exact ⟨_, rfl, t, _, _, _, rfl, rfl, SqL.of ht, rfl, _, rfl, sa, _, _, _, rfl, rfl, SqT.of hsa, rfl, fa, _, _, _, rfl, rfl, SqT.of hfa, at0, f1, _, _, _, rfl, rfl, SqT.of hf1a, rfl, td, _, rfl, (by rw [← hpv]; exact DGet.k (k := Sum.inl ((f.1 : Nat) : Int)) htd), pa, _, _, _, rfl, rfl, SqL.of hpa, rfl, _, rfl, (by show 2 ≤ sizeLine; decide), fin⟩
/-! ### the ring -/
def sp_isring : Sp := fun vs H Q _ => ∃ (el : Addr) (c i : Nat) (ed : List (Nat × Nat)) (ys : List V), vs = [.ref el, .int c, .int i] ∧ H el = some (.lst ys) ∧ RpAll H (ed.map edD) ys ∧ (∀ e ∈ ed, e.1 < c ∧ e.2 < c) ∧ i < c ∧ c ≤ 1000 ∧
  ∀ (b : Bool) (H' : Hp), Same H H' → (b = true ↔ ∃ n, Te ed n i i) → Q (.bl b) H'
abbrev n__law_is_on_ring : List Str := ["_law_edges", "_law_count", "_law_place", "_law_reached", "_law_edge", "_law_k"]
theorem sc__law_is_on_ring : FnScope n__law_is_on_ring ["_law_edges", "_law_count", "_law_place"] (defScope s__law_is_on_ring) := ⟨rfl, rfl, rfl, by decide +kernel, rfl, by decide +kernel, by decide +kernel⟩
theorem first1_snoc (i : Nat) (ed : List (Nat × Nat)) (e : Nat × Nat) (bs : List Bool) : first1 i (ed ++ [e]) bs = if e.1 = i then (first1 i ed bs).set e.2 true else first1 i ed bs := by simp [first1, List.foldl_append]
theorem pass1_snoc (ed : List (Nat × Nat)) (e : Nat × Nat) (bs : List Bool) : pass1 (ed ++ [e]) bs = hit (pass1 ed bs) e := by simp [pass1, List.foldl_append]
theorem set_ix {n k : Nat} (h : k < n) : ixN n (k : Int) = some k := by
  unfold ixN
  rw [if_pos (by omega), if_pos (by omega), Int.toNat_natCast]
theorem ok_isring (T : Env K mg) : Cal P w K mg base 1 "_law_is_on_ring" sp_isring [] := by
  obtain ⟨fd, F⟩ := T.F__law_is_on_ring
  refine cal_by F T.g__law_is_on_ring (F.bindsN fun _ _ _ _ _ _ us hl => match us, hl with | [_, _, _], _ => rfl) sc__law_is_on_ring (fun vs H Q E h => ?_) (fun cdv A outer s H vs Q E hr h => ?_)
  · obtain ⟨el, c, i, ed, ys, rfl, _⟩ := h
    rfl
  obtain ⟨el, c, i, ed, ys, rfl, hel, hy, hed, hi, h1000, k⟩ := h
  have hyl : ys.length = ed.length := by rw [hy.len, List.length_map]
  refine ⟨_, pss_cons (ps_setLc (i := 3) (own := [("_law_k", 5)]) (g := gName 5) (by rfl) sc__law_is_on_ring.nd rfl rfl (sw_true rfl rfl rfl (by decide +kernel)) (pi_range1 rfl T.f_range (pa_cons (pv 1) pa_nil)) (blkOk_by (own := [("_law_k", 5)]) (N := n__law_is_on_ring) (sc := defScope s__law_is_on_ring) (by decide +kernel)) (fun _ _ _ _ _ => (pg_name (i := 5) sc__law_is_on_ring.nd rfl (Or.inl rfl))) (fun _ _ _ _ _ => pts_nil) (fun _ _ _ _ _ => pe_bl))
      (pss_cons (ps_for PassesOwn.never rfl (pi_list (pv 0)) (pg_name (i := 4) sc__law_is_on_ring.nd rfl (Or.inl rfl))
        (pss_one (ps_if (pt_cmpR op_eq (pe_ix ix_tup (pv 4) pe_int (fun _ _ => rfl)) (pv 2) (nomark _))
          (pss_one (ps_asg pe_bl (pg_sub (pv 3) (pe_ix ix_tup (pv 4) pe_int (fun _ _ => rfl)) set_list)))
          pss_nil)))
      (pss_cons (ps_for PassesOwn.never rfl (pi_range1 rfl T.f_range (pa_cons (pv 1) pa_nil)) (pg_name (i := 5) sc__law_is_on_ring.nd rfl (Or.inl rfl))
        (pss_cons (ps_for PassesOwn.never rfl (pi_list (pv 0)) (pg_name (i := 4) sc__law_is_on_ring.nd rfl (Or.inl rfl))
          (pss_one (ps_if (pt_val (pe_ix ix_list (pv 3) (pe_ix ix_tup (pv 4) pe_int (fun _ _ => rfl)) (fun _ _ => rfl)))
            (pss_one (ps_asg pe_bl (pg_sub (pv 3) (pe_ix ix_tup (pv 4) pe_int (fun _ _ => rfl)) set_list)))
            pss_nil)))
        (pss_one (ps_if (pt_val (pe_ix ix_list (pv 3) (pv 2) (fun _ _ => rfl)))
          (pss_one (ps_ret pe_bl))
          pss_nil))))
      (pss_one (ps_ret pe_bl)))), ?_⟩
  refine ⟨_, rfl, _, rfl, by omega, by omega, fun D hD => ?_⟩
  refine lc_it (walk_range (lo := 0) (n := (c : Int).toNat)) (fun j H3 => Same H H3 ∧ H3 D = some (.lst (List.replicate j (.bl false)))) ⟨same_upd hD, upd_same⟩ (fun _ _ _ _ => trivial) ?_ ?_
  · rintro j y _ H3 hj ⟨sm3, hD3⟩ ⟨rfl, _⟩
    refine ⟨rfl, ?_⟩
    dsimp only [tYes]
    refine iteT ?_
    refine ⟨_, hD3, smallL (by rw [List.length_replicate]; omega), sm3.mut hD, ?_⟩
    rw [upd_same, List.replicate_succ']
  rintro H3 ⟨sm3, hD3⟩
  rw [Int.toNat_natCast] at hD3
  have hD3' : H3 D = some (.lst ((List.replicate c false).map .bl)) := by rw [List.map_replicate]; exact hD3
  -- an edge, as it stands
  have edge : ∀ {H4 : Hp} {j : Nat} {y : V}, Same H H4 → ys[j]? = some y → ∃ e q, ed[j]? = some e ∧ y = .ref q ∧ H4 q = some (.tup [.int e.1, .int e.2]) ∧ e.1 < c ∧ e.2 < c ∧ ed.take (j + 1) = ed.take j ++ [e] := by
    intro H4 j y sm hyj
    obtain ⟨d, hdj, ry⟩ := hy.getV hyj
    rw [List.getElem?_map] at hdj
    obtain ⟨e, he, rfl⟩ := Option.map_eq_some_iff.mp hdj
    obtain ⟨q, _, rfl, hq, _, _, rfl, rfl, _, _, rfl, rfl, rfl⟩ := ry
    have := hed e (List.mem_of_getElem? he)
    exact ⟨e, q, he, rfl, sm _ _ hq, this.1, this.2, by rw [List.take_add_one, he]; rfl⟩
  have nel : el ≠ D := ne_of_none hel hD
  have hel' : ∀ {H4 : Hp}, Same H H4 → H4 el = some (.lst ys) := fun s => s _ _ hel
  -- the first marks
  refine ⟨_, rfl, el, rfl, ⟨_, SqL.of (hel' sm3)⟩, ?_⟩
  refine for_it (walk_list (K := K) (a := el) (xs := ys)) (fun j σ H4 => ∃ x4 : Option V, σ = [some (.ref el), some (.int c), some (.int i), some (.ref D), x4, none] ∧ Same H H4 ∧ H4 D = some (.lst ((first1 i (ed.take j) (List.replicate c false)).map .bl)) ∧ (first1 i (ed.take j) (List.replicate c false)).length = c)
    ⟨_, rfl, sm3, hD3', List.length_replicate ..⟩ (fun j σ H4 _ ⟨_, _, s, _⟩ => SqL.of (hel' s)) ?_ ?_
  · rintro j y σ _ H4 hj ⟨x4, rfl, sm, hDj, hlen⟩ ⟨rfl, hyj⟩
    obtain ⟨e, q, he, rfl, hq, e1, e2, eT⟩ := edge sm hyj
    rw [eT, first1_snoc]
    generalize first1 i (ed.take j) (List.replicate c false) = bs at *
    refine ⟨_, rfl, q, _, _, _, rfl, rfl, SqT.of hq, rfl, _, rfl, rfl, _, rfl, ?_⟩
    by_cases ce : e.1 = i
    · refine if_t (by rw [ce]; exact decide_eq_true rfl) ?_
      refine ⟨_, rfl, _, rfl, q, _, _, _, rfl, rfl, SqT.of hq, rfl, D, _, _, e.2, rfl, rfl, hDj, set_ix (by rw [List.length_map, hlen]; exact e2), ?_⟩
      refine ⟨_, rfl, sm.mut hD, ?_, ?_⟩
      · rw [if_pos ce, upd_same, List.map_set]
      · rw [if_pos ce, List.length_set]; exact hlen
    · refine if_f (decide_eq_false (by intro z; injection z with z; omega)) ?_
      refine ⟨_, rfl, sm, ?_, ?_⟩
      · rw [if_neg ce]; exact hDj
      · rw [if_neg ce]; exact hlen
  rintro σ H4 ⟨x4, rfl, sm4, hD4, _⟩
  rw [hyl, List.take_length] at hD4
  -- the passes
  refine ⟨_, rfl, _, rfl, by omega, by omega, ?_⟩
  refine for_range (n := (c : Int).toNat) (fun kk σ H5 => ∃ (x4 x5 : Option V) (bs : List Bool), σ = [some (.ref el), some (.int c), some (.int i), some (.ref D), x4, x5] ∧ Same H H5 ∧ H5 D = some (.lst (bs.map .bl)) ∧ Pas ed i c kk bs ∧ (0 < kk → bs.getD i false = false))
    ⟨_, _, _, rfl, sm4, hD4, Pas.start hed, fun z => absurd z (by omega)⟩ ?_ ?_
  · rintro kk σ H5 hkk ⟨x4, x5, bs, rfl, sm5, hD5, pas, _⟩
    refine ⟨_, rfl, el, rfl, ⟨_, SqL.of (hel' sm5)⟩, ?_⟩
    refine for_it (walk_list (K := K) (a := el) (xs := ys)) (fun j σ H6 => ∃ x4 : Option V, σ = [some (.ref el), some (.int c), some (.int i), some (.ref D), x4, some (.int (0 + (kk : Nat)))] ∧ Same H H6 ∧ H6 D = some (.lst ((pass1 (ed.take j) bs).map .bl)) ∧ (pass1 (ed.take j) bs).length = c)
      ⟨_, rfl, sm5, hD5, pas.len⟩ (fun j σ H4 _ ⟨_, _, s, _⟩ => SqL.of (hel' s)) ?_ ?_
    · rintro j y σ _ H6 hj ⟨x4, rfl, sm, hDj, hlen⟩ ⟨rfl, hyj⟩
      obtain ⟨e, q, he, rfl, hq, e1, e2, eT⟩ := edge sm hyj
      rw [eT, pass1_snoc]
      generalize pass1 (ed.take j) bs = cs at *
      refine ⟨_, rfl, _, rfl, q, _, _, _, rfl, rfl, SqT.of hq, rfl, D, _, _, _, rfl, rfl, SqL.of hDj, at_bool (by rw [hlen]; exact e1), _, rfl, ?_⟩
      by_cases ce : cs.getD e.1 false = true
      · refine if_t ce ?_
        refine ⟨_, rfl, _, rfl, q, _, _, _, rfl, rfl, SqT.of hq, rfl, D, _, _, e.2, rfl, rfl, hDj, set_ix (by rw [List.length_map, hlen]; exact e2), ?_⟩
        refine ⟨_, rfl, sm.mut hD, ?_, ?_⟩
        · unfold hit; rw [if_pos ce, upd_same, List.map_set]
        · unfold hit; rw [if_pos ce, List.length_set]; exact hlen
      · refine if_f (Bool.eq_false_iff.mpr ce) ?_
        refine ⟨_, rfl, sm, ?_, ?_⟩
        · unfold hit; rw [if_neg ce]; exact hDj
        · unfold hit; rw [if_neg ce]; exact hlen
    · rintro σ H6 ⟨x4, rfl, sm6, hD6, hlen⟩
      rw [hyl, List.take_length] at hD6 hlen
      have pn := pas.next hed
      refine ⟨_, rfl, _, rfl, D, _, _, _, rfl, rfl, SqL.of hD6, at_bool (by rw [hlen]; exact hi), _, rfl, ?_⟩
      by_cases cr : (pass1 ed bs).getD i false = true
      · refine if_t cr ?_
        exact k true H6 sm6 ⟨fun _ => pn.snd i cr, fun _ => rfl⟩
      · refine if_f (Bool.eq_false_iff.mpr cr) ?_
        exact ⟨_, _, _, rfl, sm6, hD6, pn, fun _ => Bool.eq_false_iff.mpr cr⟩
  · rintro σ H5 ⟨x4, x5, bs, rfl, sm5, hD5, pas, hno⟩
    rw [Int.toNat_natCast] at pas hno
    refine k false H5 sm5 ⟨(fun z => by cases z), fun ⟨n, t⟩ => ?_⟩
    have := pas.all hed t
    rw [hno (by omega)] at this
    cases this
end
end Pr
/-! The law. -/
namespace Pr
open PySem PySem.Spec PyProof.Rows L2 RT
open C8 (Cal Met Mak pe_c pe_mk pe_mt pe_mt0)
section
variable {P : Program} {w : World} {K : PySem.W.Frag} {mg : Str → Option Value} {base : Heap}
def sp_law (K : PySem.W.Frag) : Sp := fun vs H Q _ => ∃ (a : Addr) (ns : List Int), vs = [.ref a] ∧ SqL K H a (ns.map V.int) ∧ ns.length ≤ 63 ∧ ∀ H', Q (.bl true) H'
def Due (G : Prog) (pl : Nat) (ps : List Sit) : Prop := ∃ s ∈ ps, isAt G s pl = true ∧ Tr G s s
abbrev n_law : List Str := ["_law_script", "_law_numbers_here", "_law_program_here", "_law_told", "_law_place", "_law_world_here", "_law_due", "_law_k", "_law_verdict"]
theorem sc_law : FnScope n_law ["_law_script"] (defScope s_law) := ⟨rfl, rfl, rfl, by decide +kernel, rfl, by decide +kernel, by decide +kernel⟩
theorem ok_law {fd : FuncData} (T : Env K mg) (F : FunD K "law" "law" (defArgs s_law) (defBody s_law) (defScope s_law) [] [] (He.ga K "law") fd) (c__law_numbers : Cal P w K mg base 1 "_law_numbers" (sp_numbers K) []) (c__law_program : Cal P w K mg base 12 "_law_program" sp_program []) (c__law_table : Cal P w K mg base 15 "_law_table" sp_table []) (c__law_world : Cal P w K mg base 7 "_law_world" sp_world [])
    (c__law_is_at : Cal P w K mg base 1 "_law_is_at" sp_isat []) (c__law_is_on_ring : Cal P w K mg base 1 "_law_is_on_ring" sp_isring []) (c_passes_ever : Cal P w K mg base 15 "passes_ever" (sp_pever K) []) (c_Program : Mak P w K mg base 10 "Program" (He.ga K "Program") (sp_prog K) []) :
    FnOk P w K mg base C8.CX0 17 (He.ga K "law") fd ["_law_script"] (sp_law K) := by
  refine fn_by F sc_law (fun vs H Q E h => ?_) (fun cdv A outer s H vs Q E hr h => ?_)
  · obtain ⟨a, ns, rfl, _⟩ := h
    rfl
  obtain ⟨a, ns, rfl, hS, h63, fin⟩ := h
  refine ⟨_, pss_cons (ps_set (i := 1) sc_law.nd rfl (Or.inl rfl) (pe_c c__law_numbers hr (by omega) rfl (pa_cons (pv 0) (pa_cons pe_int pa_nil))))
      (pss_cons (ps_set (i := 2) sc_law.nd rfl (Or.inl rfl) (pe_c c__law_program hr (by omega) rfl (pa_cons (pv 1) (pa_cons pe_int (pa_cons pe_bl pa_nil)))))
      (pss_cons (ps_set (i := 3) sc_law.nd rfl (Or.inl rfl) (pe_c c__law_table hr (by omega) rfl (pa_cons (pv 2) pa_nil)))
      (pss_cons (ps_set (i := 4) sc_law.nd rfl (Or.inl rfl) (pe_op op_mod (pe_ix ix_list (pv 1) pe_int (fun _ _ => rfl)) pe_int))
      (pss_cons (ps_set (i := 5) sc_law.nd rfl (Or.inl rfl) (pe_c c__law_world hr (by omega) rfl (pa_cons (pv 2) (pa_cons (pv 3) (pa_cons pe_int pa_nil)))))
      (pss_cons (ps_if (pt_cmpR op_gt (pe_callB call_len_seq (by rfl) T.f_len (by decide +kernel) (pa_cons (pe_ix ix_list (pv 5) pe_int (fun _ _ => rfl)) pa_nil)) pe_int (nomark _))
        (pss_one (ps_ret pe_bl))
        pss_nil)
      (pss_cons (ps_set (i := 6) sc_law.nd rfl (Or.inl rfl) pe_bl)
      (pss_cons (ps_for PassesOwn.never rfl (pi_range1 rfl T.f_range (pa_cons (pe_callB call_len_seq (by rfl) T.f_len (by decide +kernel) (pa_cons (pe_ix ix_list (pv 5) pe_int (fun _ _ => rfl)) pa_nil)) pa_nil)) (pg_name (i := 7) sc_law.nd rfl (Or.inl rfl))
        (pss_one (ps_if (PW.pt (pw_and (pt_not (pt_val (pv 6))) (pw_and1 (pt_val (pe_c c__law_is_at hr (by omega) rfl (pa_cons (pv 3) (pa_cons (pe_ix ix_list (pe_ix ix_list (pv 5) pe_int (fun _ _ => rfl)) (pv 7) (fun _ _ => rfl)) (pa_cons (pv 4) pa_nil))))))))
          (pss_one (ps_set (i := 6) sc_law.nd rfl (Or.inl rfl) (pe_c c__law_is_on_ring hr (by omega) rfl (pa_cons (pe_ix ix_list (pv 5) pe_int (fun _ _ => rfl)) (pa_cons (pe_callB call_len_seq (by rfl) T.f_len (by decide +kernel) (pa_cons (pe_ix ix_list (pv 5) pe_int (fun _ _ => rfl)) pa_nil)) (pa_cons (pv 7) pa_nil))))))
          pss_nil)))
      (pss_cons (ps_set (i := 8) sc_law.nd rfl (Or.inl rfl) (pe_ix ix_tup (pe_c c_passes_ever hr (by omega) rfl (pa_cons (pe_mk c_Program hr (by omega) rfl (pa_cons (pe_ix ix_list (pv 2) pe_int (fun _ _ => rfl)) (pa_cons (pe_ix ix_list (pv 2) pe_int (fun _ _ => rfl)) pa_nil))) (pa_cons (pv 4) pa_nil))) pe_int (fun _ _ => rfl)))
      (pss_one (ps_ret (pe_and (pe_callB call_isi (by rfl) T.f_isinstance (by decide +kernel) (pa_cons (pv 8) (pa_cons (pe_bltn (by rfl) T.f_bool (by decide +kernel) (v := .ty "bool") rfl) pa_nil))) (pe_one (pe_cmpR op_eq (pv 8) (pv 6) (nomark _)))))))))))))), ?_⟩
  refine ⟨_, rfl, a, ns, rfl, hS, h63, fun nl ms H1 hnl0 s1 hnl h31 => ?_⟩
  refine ⟨_, rfl, nl, ms, rfl, hnl, h31, fun G ap H2 s2 ok hG => ?_⟩
  refine ⟨_, rfl, ap, G, rfl, hG, ok, fun tt H3 s3 hT => ?_⟩
  have hnl3 := (s2.trans s3) _ _ hnl
  obtain ⟨x30, hx30⟩ : ∃ x, (ms.map V.int)[30]? = some (.int x) := ⟨ms[30], by rw [List.getElem?_map, List.getElem?_eq_getElem (by omega)]; rfl⟩
  refine ⟨_, rfl, nl, _, _, _, rfl, rfl, SqL.of hnl3, atI_nat hx30, _, _, rfl, rfl, (by show (0 : Int) < 3; decide), ?_⟩
  obtain ⟨pl, hpl⟩ : ∃ pl : Nat, x30 % 3 = (pl : Int) := ⟨(x30 % 3).toNat, by omega⟩
  show gName 4 (V.int (x30 % 3)) _ _ _
  rw [hpl]
  refine ⟨_, rfl, _, rfl, ap, tt, G, rfl, hG.same s3, hT, ok, fun r pa el ps ed n xs ys H4 s4 hr hpa hps hel hed wd hn h1000 => ?_⟩
  have hxl : xs.length = ps.length := by rw [hps.len, List.length_map]
  have hG4 := hG.same (s3.trans s4)
  have hT4 := hT.same s4
  refine ⟨_, rfl, r, _, _, _, rfl, rfl, SqL.of hr, rfl, pa, _, rfl, .inl (SqL.of hpa), _, _, rfl, rfl, _, rfl, ?_⟩
  by_cases c80 : 80 < ps.length
  · exact if_t (decide_eq_true (by omega)) (fin _)
  have en : n = ps.length := by omega
  subst en
  refine if_f (decide_eq_false (by omega)) ?_
  have hedl : ∀ e ∈ ed, e.1 < ps.length ∧ e.2 < ps.length := fun e he => by
    obtain ⟨s, s', h1, h2, _⟩ := wd.snd e he
    exact ⟨(List.getElem?_eq_some_iff.mp h1).1, (List.getElem?_eq_some_iff.mp h2).1⟩
  -- what is due
  refine ⟨_, rfl, r, _, _, _, rfl, rfl, SqL.of hr, rfl, pa, _, rfl, .inl (SqL.of hpa), _, rfl, by omega, by omega, ?_⟩
  refine for_range (n := ((xs.length : Nat) : Int).toNat) (fun i σ H5 => ∃ (d : Bool) (x7 : Option V), σ = [some (.ref a), some (.ref nl), some (.ref ap), some (.ref tt), some (.int pl), some (.ref r), some (.bl d), x7, none] ∧ Same H4 H5 ∧ (d = true ↔ ∃ (j : Nat) (s : Sit), j < i ∧ ps[j]? = some s ∧ isAt G s pl = true ∧ Tr G s s))
    ⟨false, _, rfl, Same.refl _, fun z => (by cases z), fun ⟨j, s, z, _⟩ => by omega⟩ ?_ ?_
  · rintro i σ H5 hi ⟨d, x7, rfl, s5, hd⟩
    rw [Int.toNat_natCast, hxl] at hi
    obtain ⟨s, hs⟩ : ∃ s, ps[i]? = some s := ⟨_, List.getElem?_eq_getElem hi⟩
    obtain ⟨sv, hsv, rs⟩ := hps.get (i := i) (d := sitD s) (by rw [List.getElem?_map, hs]; rfl)
    have keep : d = true → (∃ (j : Nat) (s : Sit), j < i + 1 ∧ ps[j]? = some s ∧ isAt G s pl = true ∧ Tr G s s) := fun z => by
      obtain ⟨j, t, h1, h2⟩ := hd.mp z
      exact ⟨j, t, by omega, h2⟩
    refine ⟨_, rfl, _, rfl, ?_⟩
    cases d with
    | true =>
      refine iteF (iteF ?_)
      exact ⟨true, _, rfl, s5, fun _ => keep rfl, fun _ => rfl⟩
    | false =>
      have no : ¬ ∃ (j : Nat) (s : Sit), j < i ∧ ps[j]? = some s ∧ isAt G s pl = true ∧ Tr G s s := fun z => by cases hd.mpr z
      have only : ∀ {j : Nat} {t : Sit}, j < i + 1 → ps[j]? = some t → isAt G t pl = true → Tr G t t → t = s := fun {j t} h1 h2 h3 h4 => by
        by_cases c : j < i
        · exact absurd ⟨j, t, c, h2, h3, h4⟩ no
        · have : j = i := by omega
          subst this
          rw [hs] at h2
          exact (Option.some.inj h2).symm
      refine iteT ?_
      have hr5 := s5 _ _ hr
      refine ⟨_, rfl, _, rfl, r, _, _, _, rfl, rfl, SqL.of hr5, rfl, _, rfl, pa, _, _, _, rfl, rfl, SqL.of (s5 _ _ hpa), (by rw [Int.zero_add]; exact atI_nat hsv), _, rfl, tt, sv, G, s, pl, rfl, hT4.same s5, ok, Rp.at s5.tups _ _ rs, wd.ok s (List.mem_of_getElem? hs), fun H6 s6 => ?_⟩
      have s56 := s5.trans s6
      refine ⟨_, rfl, ?_⟩
      cases e : isAt G s pl with
      | false =>
        refine iteF ⟨false, _, rfl, s56, fun z => (by cases z), fun ⟨j, t, h1, h2, h3, h4⟩ => ?_⟩
        rw [only h1 h2 h3 h4, e] at h3
        exact h3
      | true =>
        refine iteT ?_
        have hr6 := s56 _ _ hr
        refine ⟨_, rfl, r, _, _, _, rfl, rfl, SqL.of hr6, rfl, _, rfl, r, _, _, _, rfl, rfl, SqL.of hr6, rfl, pa, _, rfl, .inl (SqL.of (s56 _ _ hpa)), _, rfl, el, ps.length, i, ed, ys, (by rw [hxl, Int.zero_add]; rfl), s56 _ _ hel, RpAll.at s56.tups _ _ hed, hedl, hi, h1000, fun b H7 s7 hb => ?_⟩
        refine ⟨b, _, rfl, s56.trans s7, fun z => ⟨i, s, Nat.lt_succ_self _, hs, e, (wd.ring hs).mp (hb.mp z)⟩, fun ⟨j, t, h1, h2, h3, h4⟩ => hb.mpr ((wd.ring hs).mpr ?_)⟩
        rw [← only h1 h2 h3 h4]
        exact h4
  · rintro σ H5 ⟨d, x7, rfl, s5, hd⟩
    rw [Int.toNat_natCast, hxl] at hd
    obtain ⟨gl, gx, g1, g2, g3⟩ := hG4.same s5
    refine ⟨_, rfl, ap, _, _, _, rfl, rfl, SqL.of g1, rfl, _, rfl, ap, _, _, _, rfl, rfl, SqL.of g1, rfl, fun x dx h1 h2 h3 => ⟨x, dx, gl, gx, G, H5, rfl, made h1 h2, h1, upd_same, (made h1 h2) _ _ g2, RpAll.at (made h1 h2).tups _ _ g3, ok, fun H6 s6 hpg => ⟨rfl, ?_⟩⟩⟩
    refine ⟨_, rfl, x, pl, G, rfl, hpg, ok, fun t u b H7 ht hb => ⟨t, _, _, _, rfl, rfl, SqT.of ht, rfl, ?_⟩⟩
    have eb : b = d := by
      have h1 : b = true ↔ d = true := by
        rw [hb, ring_iff ok wd, hd]
        constructor
        · rintro ⟨s, m, h3, h4⟩
          obtain ⟨j, hj⟩ := List.mem_iff_getElem?.mp m
          exact ⟨j, s, (List.getElem?_eq_some_iff.mp hj).1, hj, h3, h4⟩
        · rintro ⟨j, s, _, hj, h3⟩
          exact ⟨s, List.mem_of_getElem? hj, h3⟩
      cases b <;> cases d <;> simp at h1 <;> rfl
    subst eb
    refine ⟨_, rfl, ?_⟩
    refine ⟨.bl b, .ty "bool", _, _, true, rfl, .ty _, .base (.bl b), kit_ty (by rfl), true, rfl, iteT ⟨_, rfl, _, rfl, rfl, ?_⟩⟩
    show Q (.bl (decide (V.bl b = V.bl b))) H7
    rw [decide_eq_true rfl]
    exact fin H7
end
end Pr
/-! All together. -/
namespace Pr
open PySem PySem.Spec PyProof.Rows L2 RT
open C8 (Cal Met Mak pe_c pe_mk pe_mt pe_mt0)
section
variable {P : Program} {w : World} {K : PySem.W.Frag} {mg : Str → Option Value} {base : Heap}
theorem all_value (T : Env K mg) : Cal P w K mg base 5 "_law_value" (sp_value 4) [] := by
  obtain ⟨fd, F⟩ := T.F__law_value
  exact Cal_mono (ok_value T (ok_value T (ok_value T (ok_value T (Cal_none (ps := ["_law_expression_here", "_law_values"]) F T.g__law_value (F.bindsN fun _ _ _ _ _ _ us hl => match us, hl with | [_, _], _ => rfl) value_no))))) (by decide)
theorem all_world (T : Env K mg) : Cal P w K mg base 7 "_law_world" sp_world [] := ok_world T (ok_first T (ok_frame T)) (ok_after T (ok_frame T) (ok_with T) (all_value T))
theorem all_walker (T : Env K mg) : Mak P w K mg base 9 "Walker" (He.ga K "Walker") (sp_walker K) [] := ok_walker T (all_points T)
theorem all_coder (T : Env K mg) : Mak P w K mg base 11 "Coder" (He.ga K "Coder") (sp_coder K) [] := ok_coder T (all_walker T) (ok_twos T) (ok_vals T)
theorem all_pile (T : Env K mg) : Met P w K mg base 3 (He.ga K "Coder") "pile" (sp_pile K) [] := ok_pile T (ok_letter T (ok_num T))
theorem all_aft (T : Env K mg) : Met P w K mg base 5 (He.ga K "Walker") "after" (sp_aft K) [] := ok_aft T (ok_entf T (ok_nov T)) (ok_goals T (all_valof T) (ok_withv T))
theorem all_macho (T : Env K mg) : Cal P w K mg base 13 "machine_of" (sp_macho K) [] := ok_macho T (all_coder T) (ok_twos T) (ok_steps T (ok_vals T) (all_aft T) (ok_step T) (ok_num T) (all_pile T)) (ok_mach T (ok_fits T))
theorem all_marks (T : Env K mg) : Cal P w K mg base 14 "place_marks" (sp_marks K) [] := ok_marks T (ok_lat T (all_coder T)) (all_macho T)
theorem all_begin (T : Env K mg) : Cal P w K mg base 11 "begin" (sp_begin K) [] := ok_begin T (all_walker T) (ok_entf T (ok_nov T)) (ok_nov T)
theorem all_conf (T : Env K mg) : Cal P w K mg base 13 "configuration_of" (sp_conf K) [] := ok_conf T (ok_num T) (all_coder T) (all_pile T)
theorem all_reached (T : Env K mg) : Met P w K mg base 2 (He.ga K "Heads") "reached" (sp_reached K) [] := ok_reached T (ok_mfrom T)
theorem all_add (T : Env K mg) : Met P w K mg base 2 (He.ga K "Rows") "add" (sp_add P w K) [] := ok_add T (ok_missing T)
theorem all_endless (T : Env K mg) : Cal P w K mg base 5 "endless" (sp_endless K) [] :=
  ok_endless T (ok_take T (ok_use T (ok_ents T))) (ok_heads T (ok_put T) (ok_ents T)) (ok_desc T (ok_ents T)) (all_reached T) (ok_ring T (ok_mfrom T) (all_reached T) (ok_way T)) (ok_ranks T (ok_mfrom T)) (ok_way T) (ok_rows T) (all_add T) (ok_told T (all_add T))
theorem all_pever (T : Env K mg) : Cal P w K mg base 15 "passes_ever" (sp_pever K) [] := ok_pever T (all_macho T) (all_marks T) (all_begin T) (all_conf T) (all_endless T)
theorem all_law {fd : FuncData} (T : Env K mg) (F : FunD K "law" "law" (defArgs s_law) (defBody s_law) (defScope s_law) [] [] (He.ga K "law") fd) : FnOk P w K mg base C8.CX0 17 (He.ga K "law") fd ["_law_script"] (sp_law K) :=
  ok_law T F (ok_gen T).1 (ok_gen T).2 (ok_tab T) (all_world T) (ok_isat T) (ok_isring T) (all_pever T) (all_prog T)
end
theorem facts {P : Program} {w : World} {K : PySem.W.Frag} {h : Heap} {mg : Str → Option Value} {f : Addr} (X : K.In h) (G : h.Ns mainGlobals mg) (hfa : mg ("law" : Str) = some (.ref f)) (c : He.SaysD fa fn K) :
    ∃ fd : FuncData, (∀ (s : Shared) (v : Value), BindsTo s fd ⟨[v], []⟩ [("_law_script", v)]) ∧ ∀ base : Heap, K.In base → base.Ns mainGlobals mg → FnOk P w K mg base C8.CX0 17 f fd ["_law_script"] (sp_law K) := by
  have T : Env K mg := Env.mk' X G c
  obtain ⟨fd, F⟩ := T.F_law
  have e := hfa.symm.trans T.g_law
  cases e
  have b := FunD.bindsA (ps := ["_law_script"]) F fun _ _ _ _ _ _ us hl => match us, hl with | [_], _ => rfl
  exact ⟨fd, fun s v => b s [v] rfl, fun base _ _ => all_law T F⟩
end Pr
open PySem PySem.W PySem.Calls PyProof.Rows
theorem PySem.Challenge.cw_pilereach_k78_whole_places_for_ever_holds : PySem.Challenge.rw_pilereach_k78_whole_places_for_ever.Holds := by
  w_on; o_law
  refine HandSHeadRun.head_any (r := OpenLaw.row PySem.Challenge.rw_pilereach_k78_whole_places_for_ever) (q := view (OpenLaw.row PySem.Challenge.rw_pilereach_k78_whole_places_for_ever).prog [67]) (H := Pr.hk) (ob := Pr.ob) (M := 20000) (loose := Pr.loose) (d := HandSHeadRun.topDef (OpenLaw.row PySem.Challenge.rw_pilereach_k78_whole_places_for_ever).prog 67) (kwd := []) Pr.ob_eq
    (by kernel_rfl) (fun s => by kernel_rfl) Pr.run (by kernel_rfl) (by kernel_rfl) (by kernel_rfl) (by rfl) (by first | assumption | decide +kernel) (by decide +kernel) ⟨rfl, rfl, rfl, rfl, rfl, by decide +kernel⟩ ?hw ?hc
  case hw => w_witness2
  case hc =>
    refine L2.walk_ofE (l := PySem.Challenge.rw_pilereach_k78_whole_places_for_ever) (n := 63) (k := 17) (x := "_law_script") (CX := C8.CX0) rfl (by decide) (by kernel_rfl) ⟨rfl, by decide, by decide⟩ ?F (fun _ _ _ _ z => z)
    intro w mg fa h Y G hmg0
    obtain ⟨K, KX, c⟩ := Y
    have hmg : mg ("law" : PySem.Str) = some (.ref fa) := by
      have e : (HandSHeadRun.topDef (OpenLaw.row PySem.Challenge.rw_pilereach_k78_whole_places_for_ever).prog 67).name = ("law" : PySem.Str) := by kernel_rfl
      rw [← e]
      exact hmg0
    obtain ⟨fd, hb, hF⟩ := Pr.facts (P := (PySem.Challenge.rw_pilereach_k78_whole_places_for_ever).prog) (w := w) KX G hmg c
    exact ⟨K, fd, Pr.sp_law K, KX, hb, fun H a ns hl _ hS => ⟨a, ns, rfl, hS, hl, fun _ => rfl⟩, hF⟩
