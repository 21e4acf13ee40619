import PyProof.Rows.All
import Wide.All
import OpenK.AllK
import Wide.FinOn
import KE.KStateDown
import Lean
import HandS.ForMost
import HandS.Defaults
import HandS.More
import HandS.TupAny
import HandS.IsInst
import HandS.Conv
import HandS.RevRange
import HandS.SortRule
import HandS.Style
import HandS.ClsMeth
import HandS.Zip
import HandS.Head0
import HandS.Head1
import HandS.Head2
import HandS.HeadEnd
import HandS.HeadHook1
import HandS.HeadHook2
import HandS.WideBits
import HandS.Walk
import HandS.Evl
import PySem.Challenge.RW_nearmerge_k55_whole_every_way_one_line
set_option Elab.async false
set_option linter.all false
set_option maxRecDepth 100000
set_option maxHeartbeats 4000000
namespace NR
open PySem PySem.Spec PyProof.Rows L2
abbrev R : PySem.W.OpenRow := PySem.W.OpenLaw.row PySem.Challenge.rw_nearmerge_k55_whole_every_way_one_line
def top (i : Nat) : Stmt := PySem.Challenge.pw_nearmerge_k55_whole_every_way_one_line.main.body.getD i (.Pass ⟨0, 0, 0, 0⟩)
abbrev s_is_whole : Stmt := (top 21)
abbrev s_is_key : Stmt := (top 22)
abbrev s_is_thing : Stmt := (top 23)
abbrev s_is_row : Stmt := (top 24)
abbrev s_is_part : Stmt := (top 25)
abbrev s_is_order : Stmt := (top 26)
abbrev s_compared : Stmt := (top 27)
abbrev s_check_number : Stmt := (top 29)
abbrev s_check_line : Stmt := (top 30)
abbrev s_check_most : Stmt := (top 31)
abbrev s_Noted_init : Stmt := (inClass (top 32) 0)
abbrev s_Noted_many : Stmt := (inClass (top 32) 1)
abbrev s_Noted_book : Stmt := (inClass (top 32) 2)
abbrev s_Noted_check_ask : Stmt := (inClass (top 32) 3)
abbrev s_Noted_write_down : Stmt := (inClass (top 32) 4)
abbrev s_Asker_init : Stmt := (inClass (top 33) 0)
abbrev s_Asker_less : Stmt := (inClass (top 33) 1)
abbrev s_left_between : Stmt := (top 35)
abbrev s_right_between : Stmt := (top 36)
abbrev s_right_leap : Stmt := (top 38)
abbrev s_left_leap : Stmt := (top 39)
abbrev s_check_manner : Stmt := (top 41)
abbrev s_pour_plainly : Stmt := (top 42)
abbrev s_pour_by_leaps : Stmt := (top 43)
abbrev s_pour : Stmt := (top 44)
abbrev s_poured : Stmt := (top 45)
abbrev s_power_between : Stmt := (top 47)
abbrev s_put_plainly : Stmt := (top 49)
abbrev s_put_by_halves : Stmt := (top 50)
abbrev s_put_in : Stmt := (top 51)
abbrev s_run_at : Stmt := (top 53)
abbrev s_check_fill : Stmt := (top 54)
abbrev s_filled_at : Stmt := (top 55)
abbrev s_pour_top : Stmt := (top 57)
abbrev s_ordered : Stmt := (top 58)
abbrev s_stands_ahead : Stmt := (top 60)
abbrev s_put_up : Stmt := (top 61)
abbrev s_put_down : Stmt := (top 62)
abbrev s_Heap_init : Stmt := (inClass (top 63) 0)
abbrev s_Heap_put : Stmt := (inClass (top 63) 1)
abbrev s_Heap_put_all : Stmt := (inClass (top 63) 2)
abbrev s_Heap_first : Stmt := (inClass (top 63) 3)
abbrev s_Heap_take : Stmt := (inClass (top 63) 4)
abbrev s_Heap_held : Stmt := (inClass (top 63) 5)
abbrev s_place_among : Stmt := (top 65)
abbrev s_Kept_init : Stmt := (inClass (top 66) 0)
abbrev s_Kept_put : Stmt := (inClass (top 66) 1)
abbrev s_Kept_line : Stmt := (inClass (top 66) 4)
abbrev s_Meetings_init : Stmt := (inClass (top 69) 0)
abbrev s_Meetings_front : Stmt := (inClass (top 69) 1)
abbrev s_Meetings_met : Stmt := (inClass (top 69) 2)
abbrev s_Meetings_hold : Stmt := (inClass (top 69) 3)
abbrev s_Meetings_send : Stmt := (inClass (top 69) 4)
abbrev s_check_lines : Stmt := (top 70)
abbrev s_poured_all : Stmt := (top 71)
abbrev s_single_lines : Stmt := (top 72)
abbrev s_first_of : Stmt := (top 73)
abbrev s_kth : Stmt := (top 74)
abbrev s_Shelf_init : Stmt := (inClass (top 76) 0)
abbrev s_Shelf_things : Stmt := (inClass (top 76) 1)
abbrev s_Shelf_order : Stmt := (inClass (top 76) 4)
abbrev s_law_cell : Stmt := (top 78)
abbrev s_law_draws : Stmt := (top 79)
abbrev s_law_many : Stmt := (top 80)
abbrev s_law_word : Stmt := (top 81)
abbrev s_law_first : Stmt := (top 82)
abbrev s_law_things : Stmt := (top 83)
abbrev s_law_order : Stmt := (top 84)
abbrev s_law_row : Stmt := (top 85)
abbrev s_law_held : Stmt := (top 86)
abbrev s_law_arranged : Stmt := (top 87)
abbrev s_law_twos : Stmt := (top 88)
abbrev s_law_whole : Stmt := (top 89)
abbrev s_law_same : Stmt := (top 90)
abbrev s_law_put_ways : Stmt := (top 91)
abbrev s_law_most : Stmt := (top 92)
abbrev s_law_runs_way : Stmt := (top 93)
abbrev s_law_parts : Stmt := (top 94)
abbrev s_law_lines_way : Stmt := (top 95)
abbrev s_law_first_way : Stmt := (top 96)
abbrev s_law_heap_way : Stmt := (top 97)
abbrev s_law_kept_way : Stmt := (top 98)
abbrev s_law_right : Stmt := (top 99)
abbrev s_law : Stmt := (top 100)
def d_is_whole : He.DefD := ⟨("is_whole", none), "is_whole", "is_whole", defArgs s_is_whole, defBody s_is_whole, defScope s_is_whole, [], []⟩
def d_is_key : He.DefD := ⟨("is_key", none), "is_key", "is_key", defArgs s_is_key, defBody s_is_key, defScope s_is_key, [], []⟩
def d_is_thing : He.DefD := ⟨("is_thing", none), "is_thing", "is_thing", defArgs s_is_thing, defBody s_is_thing, defScope s_is_thing, [], []⟩
def d_is_row : He.DefD := ⟨("is_row", none), "is_row", "is_row", defArgs s_is_row, defBody s_is_row, defScope s_is_row, [], []⟩
def d_is_part : He.DefD := ⟨("is_part", none), "is_part", "is_part", defArgs s_is_part, defBody s_is_part, defScope s_is_part, [], []⟩
def d_is_order : He.DefD := ⟨("is_order", none), "is_order", "is_order", defArgs s_is_order, defBody s_is_order, defScope s_is_order, [], []⟩
def d_compared : He.DefD := ⟨("compared", none), "compared", "compared", defArgs s_compared, defBody s_compared, defScope s_compared, [], []⟩
def d_check_number : He.DefD := ⟨("check_number", none), "check_number", "check_number", defArgs s_check_number, defBody s_check_number, defScope s_check_number, [], []⟩
def d_check_line : He.DefD := ⟨("check_line", none), "check_line", "check_line", defArgs s_check_line, defBody s_check_line, defScope s_check_line, [], []⟩
def d_check_most : He.DefD := ⟨("check_most", none), "check_most", "check_most", defArgs s_check_most, defBody s_check_most, defScope s_check_most, [], []⟩
def d_Noted_init : He.DefD := ⟨("Noted", (some "__init__")), "__init__", "Noted.__init__", defArgs s_Noted_init, defBody s_Noted_init, defScope s_Noted_init, [], []⟩
def d_Noted_many : He.DefD := ⟨("Asker", (some "many")), "many", "Noted.many", defArgs s_Noted_many, defBody s_Noted_many, defScope s_Noted_many, [], []⟩
def d_Noted_book : He.DefD := ⟨("Asker", (some "book")), "book", "Noted.book", defArgs s_Noted_book, defBody s_Noted_book, defScope s_Noted_book, [], []⟩
def d_Noted_check_ask : He.DefD := ⟨("Asker", (some "check_ask")), "check_ask", "Noted.check_ask", defArgs s_Noted_check_ask, defBody s_Noted_check_ask, defScope s_Noted_check_ask, [], []⟩
def d_Noted_write_down : He.DefD := ⟨("Asker", (some "write_down")), "write_down", "Noted.write_down", defArgs s_Noted_write_down, defBody s_Noted_write_down, defScope s_Noted_write_down, [], []⟩
def d_Asker_init : He.DefD := ⟨("Asker", (some "__init__")), "__init__", "Asker.__init__", defArgs s_Asker_init, defBody s_Asker_init, defScope s_Asker_init, [], []⟩
def d_Asker_less : He.DefD := ⟨("Asker", (some "less")), "less", "Asker.less", defArgs s_Asker_less, defBody s_Asker_less, defScope s_Asker_less, [], []⟩
def d_left_between : He.DefD := ⟨("left_between", none), "left_between", "left_between", defArgs s_left_between, defBody s_left_between, defScope s_left_between, [], []⟩
def d_right_between : He.DefD := ⟨("right_between", none), "right_between", "right_between", defArgs s_right_between, defBody s_right_between, defScope s_right_between, [], []⟩
def d_right_leap : He.DefD := ⟨("right_leap", none), "right_leap", "right_leap", defArgs s_right_leap, defBody s_right_leap, defScope s_right_leap, [], []⟩
def d_left_leap : He.DefD := ⟨("left_leap", none), "left_leap", "left_leap", defArgs s_left_leap, defBody s_left_leap, defScope s_left_leap, [], []⟩
def d_check_manner : He.DefD := ⟨("check_manner", none), "check_manner", "check_manner", defArgs s_check_manner, defBody s_check_manner, defScope s_check_manner, [], []⟩
def d_pour_plainly : He.DefD := ⟨("pour_plainly", none), "pour_plainly", "pour_plainly", defArgs s_pour_plainly, defBody s_pour_plainly, defScope s_pour_plainly, [], []⟩
def d_pour_by_leaps : He.DefD := ⟨("pour_by_leaps", none), "pour_by_leaps", "pour_by_leaps", defArgs s_pour_by_leaps, defBody s_pour_by_leaps, defScope s_pour_by_leaps, [], []⟩
def d_pour : He.DefD := ⟨("pour", none), "pour", "pour", defArgs s_pour, defBody s_pour, defScope s_pour, [], []⟩
def d_poured : He.DefD := ⟨("poured", none), "poured", "poured", defArgs s_poured, defBody s_poured, defScope s_poured, [], []⟩
def d_power_between : He.DefD := ⟨("power_between", none), "power_between", "power_between", defArgs s_power_between, defBody s_power_between, defScope s_power_between, [], []⟩
def d_put_plainly : He.DefD := ⟨("put_plainly", none), "put_plainly", "put_plainly", defArgs s_put_plainly, defBody s_put_plainly, defScope s_put_plainly, [], []⟩
def d_put_by_halves : He.DefD := ⟨("put_by_halves", none), "put_by_halves", "put_by_halves", defArgs s_put_by_halves, defBody s_put_by_halves, defScope s_put_by_halves, [], []⟩
def d_put_in : He.DefD := ⟨("put_in", none), "put_in", "put_in", defArgs s_put_in, defBody s_put_in, defScope s_put_in, [], []⟩
def d_run_at : He.DefD := ⟨("run_at", none), "run_at", "run_at", defArgs s_run_at, defBody s_run_at, defScope s_run_at, [], []⟩
def d_check_fill : He.DefD := ⟨("check_fill", none), "check_fill", "check_fill", defArgs s_check_fill, defBody s_check_fill, defScope s_check_fill, [], []⟩
def d_filled_at : He.DefD := ⟨("filled_at", none), "filled_at", "filled_at", defArgs s_filled_at, defBody s_filled_at, defScope s_filled_at, [], []⟩
def d_pour_top : He.DefD := ⟨("pour_top", none), "pour_top", "pour_top", defArgs s_pour_top, defBody s_pour_top, defScope s_pour_top, [], []⟩
def d_ordered : He.DefD := ⟨("ordered", none), "ordered", "ordered", defArgs s_ordered, defBody s_ordered, defScope s_ordered, [], []⟩
def d_stands_ahead : He.DefD := ⟨("stands_ahead", none), "stands_ahead", "stands_ahead", defArgs s_stands_ahead, defBody s_stands_ahead, defScope s_stands_ahead, [], []⟩
def d_put_up : He.DefD := ⟨("put_up", none), "put_up", "put_up", defArgs s_put_up, defBody s_put_up, defScope s_put_up, [], []⟩
def d_put_down : He.DefD := ⟨("put_down", none), "put_down", "put_down", defArgs s_put_down, defBody s_put_down, defScope s_put_down, [], []⟩
def d_Heap_init : He.DefD := ⟨("Heap", (some "__init__")), "__init__", "Heap.__init__", defArgs s_Heap_init, defBody s_Heap_init, defScope s_Heap_init, [], []⟩
def d_Heap_put : He.DefD := ⟨("Heap", (some "put")), "put", "Heap.put", defArgs s_Heap_put, defBody s_Heap_put, defScope s_Heap_put, [], []⟩
def d_Heap_put_all : He.DefD := ⟨("Heap", (some "put_all")), "put_all", "Heap.put_all", defArgs s_Heap_put_all, defBody s_Heap_put_all, defScope s_Heap_put_all, [], []⟩
def d_Heap_first : He.DefD := ⟨("Heap", (some "first")), "first", "Heap.first", defArgs s_Heap_first, defBody s_Heap_first, defScope s_Heap_first, [], []⟩
def d_Heap_take : He.DefD := ⟨("Heap", (some "take")), "take", "Heap.take", defArgs s_Heap_take, defBody s_Heap_take, defScope s_Heap_take, [], []⟩
def d_Heap_held : He.DefD := ⟨("Heap", (some "held")), "held", "Heap.held", defArgs s_Heap_held, defBody s_Heap_held, defScope s_Heap_held, [], []⟩
def d_place_among : He.DefD := ⟨("place_among", none), "place_among", "place_among", defArgs s_place_among, defBody s_place_among, defScope s_place_among, [], []⟩
def d_Kept_init : He.DefD := ⟨("Kept", (some "__init__")), "__init__", "Kept.__init__", defArgs s_Kept_init, defBody s_Kept_init, defScope s_Kept_init, [], []⟩
def d_Kept_put : He.DefD := ⟨("Kept", (some "put")), "put", "Kept.put", defArgs s_Kept_put, defBody s_Kept_put, defScope s_Kept_put, [], []⟩
def d_Kept_line : He.DefD := ⟨("Kept", (some "line")), "line", "Kept.line", defArgs s_Kept_line, defBody s_Kept_line, defScope s_Kept_line, [], []⟩
def d_Meetings_init : He.DefD := ⟨("Meetings", (some "__init__")), "__init__", "Meetings.__init__", defArgs s_Meetings_init, defBody s_Meetings_init, defScope s_Meetings_init, [], []⟩
def d_Meetings_front : He.DefD := ⟨("Meetings", (some "front")), "front", "Meetings.front", defArgs s_Meetings_front, defBody s_Meetings_front, defScope s_Meetings_front, [], []⟩
def d_Meetings_met : He.DefD := ⟨("Meetings", (some "met")), "met", "Meetings.met", defArgs s_Meetings_met, defBody s_Meetings_met, defScope s_Meetings_met, [], []⟩
def d_Meetings_hold : He.DefD := ⟨("Meetings", (some "hold")), "hold", "Meetings.hold", defArgs s_Meetings_hold, defBody s_Meetings_hold, defScope s_Meetings_hold, [], []⟩
def d_Meetings_send : He.DefD := ⟨("Meetings", (some "send")), "send", "Meetings.send", defArgs s_Meetings_send, defBody s_Meetings_send, defScope s_Meetings_send, [], []⟩
def d_check_lines : He.DefD := ⟨("check_lines", none), "check_lines", "check_lines", defArgs s_check_lines, defBody s_check_lines, defScope s_check_lines, [], []⟩
def d_poured_all : He.DefD := ⟨("poured_all", none), "poured_all", "poured_all", defArgs s_poured_all, defBody s_poured_all, defScope s_poured_all, [], []⟩
def d_single_lines : He.DefD := ⟨("single_lines", none), "single_lines", "single_lines", defArgs s_single_lines, defBody s_single_lines, defScope s_single_lines, [], []⟩
def d_first_of : He.DefD := ⟨("first_of", none), "first_of", "first_of", defArgs s_first_of, defBody s_first_of, defScope s_first_of, [], []⟩
def d_kth : He.DefD := ⟨("kth", none), "kth", "kth", defArgs s_kth, defBody s_kth, defScope s_kth, [], []⟩
def d_Shelf_init : He.DefD := ⟨("Shelf", (some "__init__")), "__init__", "Shelf.__init__", defArgs s_Shelf_init, defBody s_Shelf_init, defScope s_Shelf_init, [], []⟩
def d_Shelf_things : He.DefD := ⟨("Shelf", (some "things")), "things", "Shelf.things", defArgs s_Shelf_things, defBody s_Shelf_things, defScope s_Shelf_things, [], []⟩
def d_Shelf_order : He.DefD := ⟨("Shelf", (some "order")), "order", "Shelf.order", defArgs s_Shelf_order, defBody s_Shelf_order, defScope s_Shelf_order, [], []⟩
def d_law_cell : He.DefD := ⟨("_law_cell", none), "_law_cell", "_law_cell", defArgs s_law_cell, defBody s_law_cell, defScope s_law_cell, [], []⟩
def d_law_draws : He.DefD := ⟨("_law_draws", none), "_law_draws", "_law_draws", defArgs s_law_draws, defBody s_law_draws, defScope s_law_draws, [], []⟩
def d_law_many : He.DefD := ⟨("_law_many", none), "_law_many", "_law_many", defArgs s_law_many, defBody s_law_many, defScope s_law_many, [], []⟩
def d_law_word : He.DefD := ⟨("_law_word", none), "_law_word", "_law_word", defArgs s_law_word, defBody s_law_word, defScope s_law_word, [], []⟩
def d_law_first : He.DefD := ⟨("_law_first", none), "_law_first", "_law_first", defArgs s_law_first, defBody s_law_first, defScope s_law_first, [], []⟩
def d_law_things : He.DefD := ⟨("_law_things", none), "_law_things", "_law_things", defArgs s_law_things, defBody s_law_things, defScope s_law_things, [], []⟩
def d_law_order : He.DefD := ⟨("_law_order", none), "_law_order", "_law_order", defArgs s_law_order, defBody s_law_order, defScope s_law_order, [], []⟩
def d_law_row : He.DefD := ⟨("_law_row", none), "_law_row", "_law_row", defArgs s_law_row, defBody s_law_row, defScope s_law_row, [], []⟩
def d_law_held : He.DefD := ⟨("_law_held", none), "_law_held", "_law_held", defArgs s_law_held, defBody s_law_held, defScope s_law_held, [], []⟩
def d_law_arranged : He.DefD := ⟨("_law_arranged", none), "_law_arranged", "_law_arranged", defArgs s_law_arranged, defBody s_law_arranged, defScope s_law_arranged, [], []⟩
def d_law_twos : He.DefD := ⟨("_law_twos", none), "_law_twos", "_law_twos", defArgs s_law_twos, defBody s_law_twos, defScope s_law_twos, [], []⟩
def d_law_whole : He.DefD := ⟨("_law_whole", none), "_law_whole", "_law_whole", defArgs s_law_whole, defBody s_law_whole, defScope s_law_whole, [], []⟩
def d_law_same : He.DefD := ⟨("_law_same", none), "_law_same", "_law_same", defArgs s_law_same, defBody s_law_same, defScope s_law_same, [], []⟩
def d_law_put_ways : He.DefD := ⟨("_law_put_ways", none), "_law_put_ways", "_law_put_ways", defArgs s_law_put_ways, defBody s_law_put_ways, defScope s_law_put_ways, [], []⟩
def d_law_most : He.DefD := ⟨("_law_most", none), "_law_most", "_law_most", defArgs s_law_most, defBody s_law_most, defScope s_law_most, [], []⟩
def d_law_runs_way : He.DefD := ⟨("_law_runs_way", none), "_law_runs_way", "_law_runs_way", defArgs s_law_runs_way, defBody s_law_runs_way, defScope s_law_runs_way, [], []⟩
def d_law_parts : He.DefD := ⟨("_law_parts", none), "_law_parts", "_law_parts", defArgs s_law_parts, defBody s_law_parts, defScope s_law_parts, [], []⟩
def d_law_lines_way : He.DefD := ⟨("_law_lines_way", none), "_law_lines_way", "_law_lines_way", defArgs s_law_lines_way, defBody s_law_lines_way, defScope s_law_lines_way, [], []⟩
def d_law_first_way : He.DefD := ⟨("_law_first_way", none), "_law_first_way", "_law_first_way", defArgs s_law_first_way, defBody s_law_first_way, defScope s_law_first_way, [], []⟩
def d_law_heap_way : He.DefD := ⟨("_law_heap_way", none), "_law_heap_way", "_law_heap_way", defArgs s_law_heap_way, defBody s_law_heap_way, defScope s_law_heap_way, [], []⟩
def d_law_kept_way : He.DefD := ⟨("_law_kept_way", none), "_law_kept_way", "_law_kept_way", defArgs s_law_kept_way, defBody s_law_kept_way, defScope s_law_kept_way, [], []⟩
def d_law_right : He.DefD := ⟨("_law_right", none), "_law_right", "_law_right", defArgs s_law_right, defBody s_law_right, defScope s_law_right, [], []⟩
def d_law : He.DefD := ⟨("law", none), "law", "law", defArgs s_law, defBody s_law, defScope s_law, [], []⟩
def fn0 : List He.DefD := [d_is_whole, d_is_key, d_is_thing, d_is_row, d_is_part, d_is_order, d_compared, d_check_number, d_check_line, d_check_most, d_Noted_init, d_Noted_many, d_Noted_book, d_Noted_check_ask, d_Noted_write_down, d_Asker_init, d_Asker_less, d_left_between, d_right_between, d_right_leap, d_left_leap, d_check_manner, d_pour_plainly, d_pour_by_leaps, d_pour, d_poured, d_power_between, d_put_plainly, d_put_by_halves, d_put_in, d_run_at, d_check_fill, d_filled_at, d_pour_top, d_ordered, d_stands_ahead, d_put_up, d_put_down, d_Heap_init, d_Heap_put]
def fn1 : List He.DefD := [d_Heap_put_all, d_Heap_first, d_Heap_take, d_Heap_held, d_place_among, d_Kept_init, d_Kept_put, d_Kept_line, d_Meetings_init, d_Meetings_front, d_Meetings_met, d_Meetings_hold, d_Meetings_send, d_check_lines, d_poured_all, d_single_lines, d_first_of, d_kth, d_Shelf_init, d_Shelf_things, d_Shelf_order, d_law_cell, d_law_draws, d_law_many, d_law_word, d_law_first, d_law_things, d_law_order, d_law_row, d_law_held, d_law_arranged, d_law_twos, d_law_whole, d_law_same, d_law_put_ways, d_law_most, d_law_runs_way, d_law_parts, d_law_lines_way, d_law_first_way, d_law_heap_way, d_law_kept_way, d_law_right, d_law]
def fn : List He.DefD := fn0 ++ fn1
def fa0 : List He.Fa := [.glo "is_whole", .glo "is_key", .glo "is_thing", .glo "is_row", .glo "is_part", .glo "is_order", .glo "compared", .glo "check_number", .glo "check_line", .glo "check_most", .glo "left_between", .glo "right_between", .glo "right_leap", .glo "left_leap"]
def fa1 : List He.Fa := [.glo "check_manner", .glo "pour_plainly", .glo "pour_by_leaps", .glo "pour", .glo "poured", .glo "power_between", .glo "put_plainly", .glo "put_by_halves", .glo "put_in", .glo "run_at", .glo "check_fill", .glo "filled_at", .glo "pour_top", .glo "ordered"]
def fa2 : List He.Fa := [.glo "stands_ahead", .glo "put_up", .glo "put_down", .glo "place_among", .glo "check_lines", .glo "poured_all", .glo "single_lines", .glo "first_of", .glo "kth", .glo "_law_cell", .glo "_law_draws", .glo "_law_many", .glo "_law_word", .glo "_law_first"]
def fa3 : List He.Fa := [.glo "_law_things", .glo "_law_order", .glo "_law_row", .glo "_law_held", .glo "_law_arranged", .glo "_law_twos", .glo "_law_whole", .glo "_law_same", .glo "_law_put_ways", .glo "_law_most", .glo "_law_runs_way", .glo "_law_parts", .glo "_law_lines_way", .glo "_law_first_way"]
def fa4 : List He.Fa := [.glo "_law_heap_way", .glo "_law_kept_way", .glo "_law_right", .glo "law", .glo "Noted", .glo "Asker", .glo "Heap", .glo "Kept", .glo "Meetings", .glo "Shelf", .free "isinstance", .free "all", .free "len", .free "min"]
def fa5 : List He.Fa := [.free "max", .free "range", .free "sorted", .free "sum", .free "tuple", .free "list", .free "int", .free "zip", .free "enumerate", .free "reversed", .free "any", .free "bool", .free "str", .int "MOST_THINGS" 60]
def fa6 : List He.Fa := [.int "MOST_LINES" 60, .str "LETTERS" "abcdefghijklmnopqrstuvwxyz", .cls "Asker", .mkr "Asker", .noat "Asker" "size", .noat "Asker" "limit", .noat "Asker" "asks", .noat "Asker" "row", .noat "Asker" "columns", .meth "Asker" "many", .meth "Asker" "book", .meth "Asker" "check_ask", .meth "Asker" "write_down", .meth "Asker" "less"]
def fa7 : List He.Fa := [.cls "Heap", .mkr "Heap", .noat "Heap" "asker", .noat "Heap" "tree", .meth "Heap" "put", .meth "Heap" "put_all", .meth "Heap" "first", .meth "Heap" "take", .meth "Heap" "held", .cls "Kept", .mkr "Kept", .noat "Kept" "asker", .noat "Kept" "numbers", .noat "Kept" "deeds"]
def fa8 : List He.Fa := [.meth "Kept" "put", .meth "Kept" "line", .cls "Meetings", .mkr "Meetings", .noat "Meetings" "asker", .noat "Meetings" "lines", .noat "Meetings" "backwards", .noat "Meetings" "gone", .noat "Meetings" "sent", .noat "Meetings" "latest", .meth "Meetings" "front", .meth "Meetings" "met", .meth "Meetings" "hold", .meth "Meetings" "send"]
def fa9 : List He.Fa := [.cls "Shelf", .mkr "Shelf", .noat "Shelf" "stood", .meth "Shelf" "things", .meth "Shelf" "order"]
def fa : List He.Fa := fa0 ++ fa1 ++ fa2 ++ fa3 ++ fa4 ++ fa5 ++ fa6 ++ fa7 ++ fa8 ++ fa9
def loose0 : List PySem.Str := [("_wall" : PySem.Str), ("MergeError" : PySem.Str), ("NoThing" : PySem.Str), ("NoOrder" : PySem.Str), ("NoRow" : PySem.Str), ("NoNumber" : PySem.Str), ("NoMost" : PySem.Str), ("NoLine" : PySem.Str), ("NoManner" : PySem.Str), ("NoFill" : PySem.Str), ("NoCount" : PySem.Str), ("NoTwice" : PySem.Str), ("NoHeld" : PySem.Str), ("NoPlace" : PySem.Str)]
def loose1 : List PySem.Str := [("NoRoom" : PySem.Str), ("Unlike" : PySem.Str), ("Spent" : PySem.Str), ("MOST_THINGS" : PySem.Str), ("LETTERS" : PySem.Str), ("is_whole" : PySem.Str), ("is_key" : PySem.Str), ("is_thing" : PySem.Str), ("is_row" : PySem.Str), ("is_part" : PySem.Str), ("is_order" : PySem.Str), ("compared" : PySem.Str), ("check_number" : PySem.Str), ("check_line" : PySem.Str)]
def loose2 : List PySem.Str := [("check_most" : PySem.Str), ("Noted" : PySem.Str), ("Asker" : PySem.Str), ("left_between" : PySem.Str), ("right_between" : PySem.Str), ("right_leap" : PySem.Str), ("left_leap" : PySem.Str), ("check_manner" : PySem.Str), ("pour_plainly" : PySem.Str), ("pour_by_leaps" : PySem.Str), ("pour" : PySem.Str), ("poured" : PySem.Str), ("power_between" : PySem.Str), ("put_plainly" : PySem.Str)]
def loose3 : List PySem.Str := [("put_by_halves" : PySem.Str), ("put_in" : PySem.Str), ("run_at" : PySem.Str), ("check_fill" : PySem.Str), ("filled_at" : PySem.Str), ("pour_top" : PySem.Str), ("ordered" : PySem.Str), ("stands_ahead" : PySem.Str), ("put_up" : PySem.Str), ("put_down" : PySem.Str), ("Heap" : PySem.Str), ("place_among" : PySem.Str), ("Kept" : PySem.Str), ("MOST_LINES" : PySem.Str)]
def loose4 : List PySem.Str := [("Meetings" : PySem.Str), ("check_lines" : PySem.Str), ("poured_all" : PySem.Str), ("single_lines" : PySem.Str), ("first_of" : PySem.Str), ("kth" : PySem.Str), ("Shelf" : PySem.Str), ("_law_cell" : PySem.Str), ("_law_draws" : PySem.Str), ("_law_many" : PySem.Str), ("_law_word" : PySem.Str), ("_law_first" : PySem.Str), ("_law_things" : PySem.Str), ("_law_order" : PySem.Str)]
def loose5 : List PySem.Str := [("_law_row" : PySem.Str), ("_law_held" : PySem.Str), ("_law_arranged" : PySem.Str), ("_law_twos" : PySem.Str), ("_law_whole" : PySem.Str), ("_law_same" : PySem.Str), ("_law_put_ways" : PySem.Str), ("_law_most" : PySem.Str), ("_law_runs_way" : PySem.Str), ("_law_parts" : PySem.Str), ("_law_lines_way" : PySem.Str), ("_law_first_way" : PySem.Str), ("_law_heap_way" : PySem.Str), ("_law_kept_way" : PySem.Str)]
def loose6 : List PySem.Str := [("_law_right" : PySem.Str)]
def loose : List PySem.Str := loose0 ++ loose1 ++ loose2 ++ loose3 ++ loose4 ++ loose5 ++ loose6
/-! ### the hook: He's, and what Noted.__init__ wants -/
def asK0 : List Addr := [2, 3, 235, 240, 245, 250, 257, 264, 271, 278, 285, 292, 337, 365, 374, 381, 388, 395, 402, 409, 416, 423, 428, 435, 442, 449, 456, 463, 470, 477, 484, 491, 498, 505, 512, 564, 575, 634, 683, 694]
def asK1 : List Addr := [699, 704, 709, 714, 757, 768, 775, 782, 789, 796, 803, 808, 813, 820, 827, 834, 841, 846, 851, 858, 863, 868, 873, 880, 885, 892, 897, 904, 234, 239, 244, 249, 256, 263, 270, 277, 284, 291, 336, 364]
def asK2 : List Addr := [373, 380, 387, 394, 401, 408, 415, 422, 427, 434, 441, 448, 455, 462, 469, 476, 483, 490, 497, 504, 511, 563, 574, 633, 682, 693, 698, 703, 708, 713, 756, 767, 774, 781, 788, 795, 802, 807, 812, 819]
def asK3 : List Addr := [826, 833, 840, 845, 850, 857, 862, 867, 872, 879, 884, 891, 896, 903, 306, 313, 320, 327, 334, 355, 362, 526, 533, 540, 547, 554, 561, 589, 596, 617, 652, 659, 666, 673, 680, 728, 735, 754, 305, 312]
def asK4 : List Addr := [319, 326, 333, 354, 361, 525, 532, 539, 546, 553, 560, 588, 595, 616, 651, 658, 665, 672, 679, 727, 734, 753]
def asK : List Addr := asK0 ++ asK1 ++ asK2 ++ asK3 ++ asK4
def exC (K : PySem.W.Frag) : Bool := PySem.W.readsIn K (He.ga K "Noted") (.type "type") && (decide (PySem.W.specialIn K (.ref (He.ga K "Noted")) "__getattribute__" = some (some (.builtin "type.__getattribute__"))) &&
  (match PySem.W.findCls K (.ref (He.ga K "Noted")) (.type "type") "__init__" with
    | some (.val v) => decide (v = .ref (He.fAd K ("Noted", some "__init__")))
    | _ => false))
abbrev AlX : Type := Bool × List He.FnW
def obsX (K : PySem.W.Frag) : AlX := ((fa.all fun f => f.ok K) && ((fn.all fun d => d.ok K) && exC K), fn.map fun d => He.fnW K d.at_)
def valX : AlX := (true, fn.map He.DefD.val)
def SaysX (K : PySem.W.Frag) : Prop := obsX K = valX
def obsXG (g : Addr → Option Obj) : AlX := obsX (He.frG g asK)
end NR

set_option maxRecDepth 100000
set_option maxHeartbeats 0
namespace NR
open PySem PySem.Spec PyProof.Rows L2
def hk : PySem.W.Hook where
  α := AlX
  obs := fun s => obsXG s.heap.get?
  val := fun _ => valX
  says := fun _ h => ∃ K : PySem.W.Frag, K.In h ∧ SaysX K
  of := fun _ _ e => ⟨_, He.frG_in, e⟩
  keeps := fun _ _ _ ⟨K, hK, c⟩ k => ⟨K, PySem.W.Frag.In.keeps hK k, c⟩
def ob (s : PySem.W.SharedT) : AlX := obsXG (HandSHeadRun.getT s)
theorem ob_eq (s : PySem.W.SharedT) : ob s = hk.obs s.abs := by
  have e : HandSHeadRun.getT s = s.abs.heap.get? := funext (HandSHeadRun.getT_eq s)
  show obsXG (HandSHeadRun.getT s) = obsXG s.abs.heap.get?
  rw [e]
theorem run (w : World) : HandSHeadRun.RunEq R (PySem.W.view R.prog [100]) hk ob 8200 loose w := by
  intro os
  kernel_rfl
end NR

/-! The mathematics of nearmerge: places by halves, insertions, the one arrangement. -/
namespace NM

/-! ### doublings -/
def twos (n : Nat) : Nat := if n ≤ 1 then 0 else twos ((n + 1) / 2) + 1
termination_by n
decreasing_by omega

theorem twos_le_one {n : Nat} (h : n ≤ 1) : twos n = 0 := by rw [twos, if_pos h]
theorem twos_more {n : Nat} (h : 1 < n) : twos n = twos ((n + 1) / 2) + 1 := by rw [twos, if_neg (by omega)]
theorem twos_pow (n : Nat) : n ≤ 2 ^ twos n := by
  induction n using Nat.strongRecOn with
  | ind n ih =>
    by_cases h : n ≤ 1
    · rw [twos_le_one h]; simpa using h
    · rw [twos_more (by omega), Nat.pow_succ]
      have := ih ((n + 1) / 2) (by omega)
      omega
theorem twos_least {n t : Nat} (h : n ≤ 2 ^ t) : twos n ≤ t := by
  induction t generalizing n with
  | zero => rw [twos_le_one (by simpa using h)]; exact Nat.le_refl _
  | succ t ih =>
    by_cases h1 : n ≤ 1
    · rw [twos_le_one h1]; exact Nat.zero_le _
    · rw [twos_more (by omega)]
      rw [Nat.pow_succ] at h
      have := ih (n := (n + 1) / 2) (by omega)
      omega
theorem twos_mono {a b : Nat} (h : a ≤ b) : twos a ≤ twos b := twos_least (Nat.le_trans h (twos_pow b))
/-- the loop's end -/
theorem twos_eq {n t : Nat} (h : n ≤ 2 ^ t) (hl : ∀ u, u < t → 2 ^ u < n) : twos n = t := by
  have h1 := twos_least h
  rcases Nat.lt_or_ge (twos n) t with h2 | h2
  · have := hl _ h2
    have := twos_pow n
    omega
  · omega
theorem twos_pos {n : Nat} (h : 1 < n) : 0 < twos n := by rw [twos_more h]; omega
theorem twos_le_self (n : Nat) : twos (n + 1) ≤ n := twos_least (by
  induction n with
  | zero => simp
  | succ n ih => rw [Nat.pow_succ]; omega)
theorem twos_lt_half {n : Nat} (h : 2 ≤ n) : twos (n / 2) + 1 ≤ twos n ∧ twos (n - n / 2) + 1 ≤ twos n := by
  have e : twos n = twos ((n + 1) / 2) + 1 := twos_more (by omega)
  have h1 : twos (n / 2) ≤ twos ((n + 1) / 2) := twos_mono (by omega)
  have h2 : n - n / 2 = (n + 1) / 2 := by omega
  rw [h2]
  omega

/-! ### the order -/
/-- x stands ahead of y in the arrangement: r tells the place of a thing among the others, likes by numbers -/
def ah (r : Nat → Nat) (x y : Nat) : Prop := r x < r y ∨ (r x = r y ∧ x < y)
theorem ah_irr {r : Nat → Nat} {x : Nat} : ¬ ah r x x := by unfold ah; omega
theorem ah_trans {r : Nat → Nat} {x y z : Nat} (h1 : ah r x y) (h2 : ah r y z) : ah r x z := by unfold ah at *; omega
theorem ah_asymm {r : Nat → Nat} {x y : Nat} (h1 : ah r x y) : ¬ ah r y x := by unfold ah at *; omega
theorem ah_total {r : Nat → Nat} {x y : Nat} (h : x ≠ y) : ah r x y ∨ ah r y x := by unfold ah; omega
theorem ah_le {r : Nat → Nat} {x y : Nat} (h : ah r x y) : r x ≤ r y := by unfold ah at h; omega
instance (r : Nat → Nat) (x y : Nat) : Decidable (ah r x y) := by unfold ah; exact inferInstance

/-- two rising lines of the same numbers are one, for any relation that is asymmetric -/
theorem same_of_perm {R : Nat → Nat → Prop} (as : ∀ x y, R x y → ¬ R y x) : ∀ {l m : List Nat}, l.Perm m → l.Pairwise R → m.Pairwise R → l = m
  | [], m, p, _, _ => (List.nil_perm.mp p).symm
  | a :: l, m, p, h1, h2 => by
    cases m with
    | nil => exact absurd p.length_eq (by simp)
    | cons b m =>
      have hab : a = b := by
        by_cases e : a = b
        · exact e
        · have ha : a ∈ b :: m := p.subset (by simp)
          have hb : b ∈ a :: l := p.symm.subset (by simp)
          have ha' : a ∈ m := by simpa [e] using ha
          have hb' : b ∈ l := by
            rcases List.mem_cons.mp hb with h | h
            · exact absurd h.symm e
            · exact h
          exact absurd ((List.pairwise_cons.mp h2).1 a ha') (as _ _ ((List.pairwise_cons.mp h1).1 b hb'))
      subst hab
      rw [same_of_perm as ((List.perm_cons a).mp p) (List.pairwise_cons.mp h1).2 (List.pairwise_cons.mp h2).2]
theorem ah_same {r : Nat → Nat} {l m : List Nat} (p : l.Perm m) (h1 : l.Pairwise (ah r)) (h2 : m.Pairwise (ah r)) : l = m := same_of_perm (fun _ _ => ah_asymm) p h1 h2

/-! ### putting in at a place -/
def insAt (l : List Nat) (i x : Nat) : List Nat := l.take i ++ [x] ++ l.drop i
theorem insAt_perm (l : List Nat) (i x : Nat) : (insAt l i x).Perm (x :: l) := by
  unfold insAt
  rw [List.append_assoc]
  refine List.Perm.trans List.perm_middle ?_
  show (x :: (l.take i ++ l.drop i)).Perm (x :: l)
  rw [List.take_append_drop]
theorem insAt_length (l : List Nat) (i x : Nat) : (insAt l i x).length = l.length + 1 := by
  have := (insAt_perm l i x).length_eq
  simpa using this
theorem pw_take {R : Nat → Nat → Prop} {l : List Nat} (h : l.Pairwise R) (i : Nat) : (l.take i).Pairwise R := h.sublist (List.take_sublist _ _)
theorem pw_drop {R : Nat → Nat → Prop} {l : List Nat} (h : l.Pairwise R) (i : Nat) : (l.drop i).Pairwise R := h.sublist (List.drop_sublist _ _)
theorem pw_td {R : Nat → Nat → Prop} {l : List Nat} (h : l.Pairwise R) (i : Nat) : ∀ a ∈ l.take i, ∀ b ∈ l.drop i, R a b := by
  rw [← List.take_append_drop i l] at h
  exact (List.pairwise_append.mp h).2.2
theorem insAt_pw {R : Nat → Nat → Prop} {l : List Nat} {i x : Nat} (h : l.Pairwise R) (h1 : ∀ a ∈ l.take i, R a x) (h2 : ∀ b ∈ l.drop i, R x b) : (insAt l i x).Pairwise R := by
  unfold insAt
  rw [List.append_assoc, List.pairwise_append]
  refine ⟨pw_take h i, ?_, ?_⟩
  · show (x :: l.drop i).Pairwise R
    rw [List.pairwise_cons]
    exact ⟨h2, pw_drop h i⟩
  · intro a ha b hb
    rcases List.mem_cons.mp (show b ∈ x :: l.drop i from hb) with e | e
    · subst e; exact h1 a ha
    · exact pw_td h i a ha b e
theorem mem_take_get {l : List Nat} {i a : Nat} (h : a ∈ l.take i) : ∃ j, j < i ∧ j < l.length ∧ l.getD j 0 = a := by
  obtain ⟨j, hj, e⟩ := List.mem_iff_getElem.mp h
  rw [List.length_take] at hj
  refine ⟨j, by omega, by omega, ?_⟩
  rw [List.getElem_take] at e
  rw [List.getD_eq_getElem?_getD, List.getElem?_eq_getElem (by omega)]
  exact e
theorem mem_drop_get {l : List Nat} {i a : Nat} (h : a ∈ l.drop i) : ∃ j, i ≤ j ∧ j < l.length ∧ l.getD j 0 = a := by
  obtain ⟨j, hj, e⟩ := List.mem_iff_getElem.mp h
  rw [List.length_drop] at hj
  refine ⟨i + j, by omega, by omega, ?_⟩
  rw [List.getElem_drop] at e
  rw [List.getD_eq_getElem?_getD, List.getElem?_eq_getElem (by omega)]
  exact e
theorem getD_get {l : List Nat} {j : Nat} (h : j < l.length) : l.getD j 0 = l[j] := by
  rw [List.getD_eq_getElem?_getD, List.getElem?_eq_getElem h]; rfl
theorem getD_mem {l : List Nat} {j : Nat} (h : j < l.length) : l.getD j 0 ∈ l := by
  rw [getD_get h]; exact List.getElem_mem h
theorem pw_getD {R : Nat → Nat → Prop} {l : List Nat} (h : l.Pairwise R) {i j : Nat} (hij : i < j) (hj : j < l.length) : R (l.getD i 0) (l.getD j 0) := by
  rw [getD_get hj, getD_get (by omega)]
  exact List.pairwise_iff_getElem.mp h i j (by omega) hj hij
/-- the ranks along a rising line don't fall -/
theorem pw_rank {r : Nat → Nat} {l : List Nat} (h : l.Pairwise (ah r)) {i j : Nat} (hij : i ≤ j) (hj : j < l.length) : r (l.getD i 0) ≤ r (l.getD j 0) := by
  rcases Nat.lt_or_ge i j with k | k
  · exact ah_le (pw_getD h k hj)
  · have : i = j := by omega
    subst this; exact Nat.le_refl _

/-! ### places by halves: (place, asks) -/
def rb (r : Nat → Nat) (l : List Nat) (x s e : Nat) : Nat × Nat :=
  if s < e then
    if r x < r (l.getD ((s + e) / 2) 0) then ((rb r l x s ((s + e) / 2)).1, (rb r l x s ((s + e) / 2)).2 + 1)
    else ((rb r l x ((s + e) / 2 + 1) e).1, (rb r l x ((s + e) / 2 + 1) e).2 + 1)
  else (s, 0)
termination_by e - s
decreasing_by all_goals omega
def lb (r : Nat → Nat) (l : List Nat) (x s e : Nat) : Nat × Nat :=
  if s < e then
    if r (l.getD ((s + e) / 2) 0) < r x then ((lb r l x ((s + e) / 2 + 1) e).1, (lb r l x ((s + e) / 2 + 1) e).2 + 1)
    else ((lb r l x s ((s + e) / 2)).1, (lb r l x s ((s + e) / 2)).2 + 1)
  else (s, 0)
termination_by e - s
decreasing_by all_goals omega

theorem rb_end {r l x s e} (h : ¬ s < e) : rb r l x s e = (s, 0) := by rw [rb, if_neg h]
theorem rb_yes {r : Nat → Nat} {l x s e} (h : s < e) (q : r x < r (l.getD ((s + e) / 2) 0)) : rb r l x s e = ((rb r l x s ((s + e) / 2)).1, (rb r l x s ((s + e) / 2)).2 + 1) := by
  conv => lhs; rw [rb, if_pos h, if_pos q]
theorem rb_no {r : Nat → Nat} {l x s e} (h : s < e) (q : ¬ r x < r (l.getD ((s + e) / 2) 0)) : rb r l x s e = ((rb r l x ((s + e) / 2 + 1) e).1, (rb r l x ((s + e) / 2 + 1) e).2 + 1) := by
  conv => lhs; rw [rb, if_pos h, if_neg q]
theorem lb_end {r l x s e} (h : ¬ s < e) : lb r l x s e = (s, 0) := by rw [lb, if_neg h]
theorem lb_yes {r : Nat → Nat} {l x s e} (h : s < e) (q : r (l.getD ((s + e) / 2) 0) < r x) : lb r l x s e = ((lb r l x ((s + e) / 2 + 1) e).1, (lb r l x ((s + e) / 2 + 1) e).2 + 1) := by
  conv => lhs; rw [lb, if_pos h, if_pos q]
theorem lb_no {r : Nat → Nat} {l x s e} (h : s < e) (q : ¬ r (l.getD ((s + e) / 2) 0) < r x) : lb r l x s e = ((lb r l x s ((s + e) / 2)).1, (lb r l x s ((s + e) / 2)).2 + 1) := by
  conv => lhs; rw [lb, if_pos h, if_neg q]

theorem half_asks {a b : Nat} (h : a < b) (c : Nat) (hc : c = (a + b) / 2 - a ∨ c = b - ((a + b) / 2 + 1)) : twos (c + 1) + 1 ≤ twos (b - a + 1) := by
  rw [twos_more (n := b - a + 1) (by omega)]
  have : twos (c + 1) ≤ twos ((b - a + 1 + 1) / 2) := twos_mono (by omega)
  omega
theorem rb_asks (r : Nat → Nat) (l : List Nat) (x : Nat) : ∀ (k s e : Nat), e - s = k → s ≤ e → s ≤ (rb r l x s e).1 ∧ (rb r l x s e).1 ≤ e ∧ (rb r l x s e).2 ≤ twos (e - s + 1) := by
  intro k
  induction k using Nat.strongRecOn with
  | ind k ih =>
    intro s e hk hse
    by_cases h : s < e
    · by_cases q : r x < r (l.getD ((s + e) / 2) 0)
      · rw [rb_yes h q]
        have := ih ((s + e) / 2 - s) (by omega) s ((s + e) / 2) rfl (by omega)
        have := half_asks h _ (.inl rfl)
        dsimp only
        omega
      · rw [rb_no h q]
        have := ih (e - ((s + e) / 2 + 1)) (by omega) ((s + e) / 2 + 1) e rfl (by omega)
        have := half_asks h _ (.inr rfl)
        dsimp only
        omega
    · rw [rb_end h]; dsimp only; omega
theorem lb_asks (r : Nat → Nat) (l : List Nat) (x : Nat) : ∀ (k s e : Nat), e - s = k → s ≤ e → s ≤ (lb r l x s e).1 ∧ (lb r l x s e).1 ≤ e ∧ (lb r l x s e).2 ≤ twos (e - s + 1) := by
  intro k
  induction k using Nat.strongRecOn with
  | ind k ih =>
    intro s e hk hse
    by_cases h : s < e
    · by_cases q : r (l.getD ((s + e) / 2) 0) < r x
      · rw [lb_yes h q]
        have := ih (e - ((s + e) / 2 + 1)) (by omega) ((s + e) / 2 + 1) e rfl (by omega)
        have := half_asks h _ (.inr rfl)
        dsimp only
        omega
      · rw [lb_no h q]
        have := ih ((s + e) / 2 - s) (by omega) s ((s + e) / 2) rfl (by omega)
        have := half_asks h _ (.inl rfl)
        dsimp only
        omega
    · rw [lb_end h]; dsimp only; omega
/-- on a line whose ranks don't fall: all ahead of the place are no more than x, all from it on are more -/
theorem rb_place (r : Nat → Nat) (l : List Nat) (x : Nat) (hl : ∀ i j, i ≤ j → j < l.length → r (l.getD i 0) ≤ r (l.getD j 0)) : ∀ (k s e : Nat), e - s = k → s ≤ e → e ≤ l.length →
    (∀ j, j < s → r (l.getD j 0) ≤ r x) → (∀ j, e ≤ j → j < l.length → r x < r (l.getD j 0)) →
    (∀ j, j < (rb r l x s e).1 → r (l.getD j 0) ≤ r x) ∧ (∀ j, (rb r l x s e).1 ≤ j → j < l.length → r x < r (l.getD j 0)) := by
  intro k
  induction k using Nat.strongRecOn with
  | ind k ih =>
    intro s e hk hse hel h1 h2
    by_cases h : s < e
    · by_cases q : r x < r (l.getD ((s + e) / 2) 0)
      · rw [rb_yes h q]
        refine ih ((s + e) / 2 - s) (by omega) s ((s + e) / 2) rfl (by omega) (by omega) h1 fun j hj hjl => ?_
        have := hl ((s + e) / 2) j hj hjl
        omega
      · rw [rb_no h q]
        refine ih (e - ((s + e) / 2 + 1)) (by omega) ((s + e) / 2 + 1) e rfl (by omega) hel (fun j hj => ?_) h2
        have := hl j ((s + e) / 2) (by omega) (by omega)
        omega
    · rw [rb_end h]
      have : s = e := by omega
      subst this
      exact ⟨h1, h2⟩
theorem lb_place (r : Nat → Nat) (l : List Nat) (x : Nat) (hl : ∀ i j, i ≤ j → j < l.length → r (l.getD i 0) ≤ r (l.getD j 0)) : ∀ (k s e : Nat), e - s = k → s ≤ e → e ≤ l.length →
    (∀ j, j < s → r (l.getD j 0) < r x) → (∀ j, e ≤ j → j < l.length → r x ≤ r (l.getD j 0)) →
    (∀ j, j < (lb r l x s e).1 → r (l.getD j 0) < r x) ∧ (∀ j, (lb r l x s e).1 ≤ j → j < l.length → r x ≤ r (l.getD j 0)) := by
  intro k
  induction k using Nat.strongRecOn with
  | ind k ih =>
    intro s e hk hse hel h1 h2
    by_cases h : s < e
    · by_cases q : r (l.getD ((s + e) / 2) 0) < r x
      · rw [lb_yes h q]
        refine ih (e - ((s + e) / 2 + 1)) (by omega) ((s + e) / 2 + 1) e rfl (by omega) hel (fun j hj => ?_) h2
        have := hl j ((s + e) / 2) (by omega) (by omega)
        omega
      · rw [lb_no h q]
        refine ih ((s + e) / 2 - s) (by omega) s ((s + e) / 2) rfl (by omega) (by omega) h1 fun j hj hjl => ?_
        have := hl ((s + e) / 2) j hj hjl
        omega
    · rw [lb_end h]
      have : s = e := by omega
      subst this
      exact ⟨h1, h2⟩

/-! ### putting in by halves -/
/-- the line with x at its right place, and the asks -/
def ph (r : Nat → Nat) (l : List Nat) (x : Nat) : List Nat × Nat := (insAt l (rb r l x 0 l.length).1 x, (rb r l x 0 l.length).2)
theorem ph_perm (r : Nat → Nat) (l : List Nat) (x : Nat) : (ph r l x).1.Perm (x :: l) := insAt_perm _ _ _
theorem ph_asks (r : Nat → Nat) (l : List Nat) (x : Nat) : (ph r l x).2 ≤ twos (l.length + 1) := (rb_asks r l x l.length 0 l.length rfl (Nat.zero_le _)).2.2
theorem ph_pw {r : Nat → Nat} {l : List Nat} {x : Nat} (h : l.Pairwise (ah r)) (hx : ∀ y ∈ l, y < x) : (ph r l x).1.Pairwise (ah r) := by
  obtain ⟨h1, h2⟩ := rb_place r l x (fun i j a b => pw_rank h a b) l.length 0 l.length rfl (Nat.zero_le _) (Nat.le_refl _) (fun j hj => by omega) (fun j a b => by omega)
  refine insAt_pw h (fun a ha => ?_) (fun b hb => ?_)
  · obtain ⟨j, hj, hjl, e⟩ := mem_take_get ha
    have := h1 j hj
    rw [e] at this
    have := hx a (List.mem_of_mem_take ha)
    unfold ah; omega
  · obtain ⟨j, hj, hjl, e⟩ := mem_drop_get hb
    have := h2 j hj hjl
    rw [e] at this
    unfold ah; omega

/-! ### putting in from behind: the place and the asks -/
def pp (r : Nat → Nat) (l : List Nat) (x : Nat) : Nat → Nat × Nat
  | 0 => (0, 0)
  | k + 1 => if r x < r (l.getD k 0) then ((pp r l x k).1, (pp r l x k).2 + 1) else (k + 1, 1)
theorem pp_asks (r : Nat → Nat) (l : List Nat) (x : Nat) : ∀ k, (pp r l x k).1 ≤ k ∧ (pp r l x k).2 ≤ k
  | 0 => ⟨Nat.le_refl _, Nat.le_refl _⟩
  | k + 1 => by
    have := pp_asks r l x k
    unfold pp
    split <;> dsimp only <;> omega
theorem pp_place (r : Nat → Nat) (l : List Nat) (x : Nat) (hl : ∀ i j, i ≤ j → j < l.length → r (l.getD i 0) ≤ r (l.getD j 0)) : ∀ k, k ≤ l.length → (∀ j, k ≤ j → j < l.length → r x < r (l.getD j 0)) →
    (∀ j, j < (pp r l x k).1 → r (l.getD j 0) ≤ r x) ∧ (∀ j, (pp r l x k).1 ≤ j → j < l.length → r x < r (l.getD j 0))
  | 0, _, h2 => ⟨fun j hj => absurd hj (Nat.not_lt_zero _), h2⟩
  | k + 1, hk, h2 => by
    unfold pp
    split
    · rename_i q
      refine pp_place r l x hl k (by omega) fun j hj hjl => ?_
      have := hl k j hj hjl
      omega
    · rename_i q
      refine ⟨fun j hj => ?_, h2⟩
      have := hl j k (by dsimp only at hj; omega) (by omega)
      omega
def pb (r : Nat → Nat) (l : List Nat) (x : Nat) : List Nat × Nat := (insAt l (pp r l x l.length).1 x, (pp r l x l.length).2)
theorem pb_perm (r : Nat → Nat) (l : List Nat) (x : Nat) : (pb r l x).1.Perm (x :: l) := insAt_perm _ _ _
theorem pb_asks (r : Nat → Nat) (l : List Nat) (x : Nat) : (pb r l x).2 ≤ l.length := (pp_asks r l x l.length).2
theorem pb_pw {r : Nat → Nat} {l : List Nat} {x : Nat} (h : l.Pairwise (ah r)) (hx : ∀ y ∈ l, y < x) : (pb r l x).1.Pairwise (ah r) := by
  obtain ⟨h1, h2⟩ := pp_place r l x (fun i j a b => pw_rank h a b) l.length (Nat.le_refl _) (fun j a b => by omega)
  refine insAt_pw h (fun a ha => ?_) (fun b hb => ?_)
  · obtain ⟨j, hj, hjl, e⟩ := mem_take_get ha
    have := h1 j hj
    rw [e] at this
    have := hx a (List.mem_of_mem_take ha)
    unfold ah; omega
  · obtain ⟨j, hj, hjl, e⟩ := mem_drop_get hb
    have := h2 j hj hjl
    rw [e] at this
    unfold ah; omega

/-! ### the arrangement -/
def arr (r : Nat → Nat) : Nat → List Nat
  | 0 => []
  | n + 1 => (pb r (arr r n) n).1
theorem range_succ_perm (n : Nat) {l : List Nat} (h : l.Perm (List.range n)) : (n :: l).Perm (List.range (n + 1)) := by
  rw [List.range_succ]
  exact ((List.perm_cons n).mpr h).trans (List.perm_append_comm (l₁ := [n]))
theorem arr_perm (r : Nat → Nat) : ∀ n, (arr r n).Perm (List.range n)
  | 0 => List.Perm.refl _
  | n + 1 => (pb_perm r (arr r n) n).trans (range_succ_perm n (arr_perm r n))
theorem arr_mem {r : Nat → Nat} {n x : Nat} : x ∈ arr r n ↔ x < n := by rw [(arr_perm r n).mem_iff, List.mem_range]
theorem arr_length (r : Nat → Nat) (n : Nat) : (arr r n).length = n := by rw [(arr_perm r n).length_eq, List.length_range]
theorem arr_pw (r : Nat → Nat) : ∀ n, (arr r n).Pairwise (ah r)
  | 0 => List.Pairwise.nil
  | n + 1 => pb_pw (arr_pw r n) fun y hy => arr_mem.mp hy
theorem arr_of {r : Nat → Nat} {n : Nat} {l : List Nat} (p : l.Perm (List.range n)) (h : l.Pairwise (ah r)) : l = arr r n := ah_same (p.trans (arr_perm r n).symm) h (arr_pw r n)
theorem nodup_range (n : Nat) : (List.range n).Nodup := List.nodup_range
theorem arr_nodup (r : Nat → Nat) (n : Nat) : (arr r n).Nodup := (arr_perm r n).nodup_iff.mpr List.nodup_range

/-! ### all numbers put in -/
def putH (r : Nat → Nat) : Nat → List Nat × Nat
  | 0 => ([], 0)
  | n + 1 => ((ph r (putH r n).1 n).1, (putH r n).2 + (ph r (putH r n).1 n).2)
def sumTwos : Nat → Nat
  | 0 => 0
  | n + 1 => sumTwos n + twos (n + 1)
theorem putH_arr (r : Nat → Nat) : ∀ n, (putH r n).1 = arr r n ∧ (putH r n).2 ≤ sumTwos n
  | 0 => ⟨rfl, Nat.le_refl _⟩
  | n + 1 => by
    obtain ⟨h1, h2⟩ := putH_arr r n
    unfold putH sumTwos
    dsimp only
    refine ⟨arr_of ?_ ?_, ?_⟩
    · rw [h1]
      exact (ph_perm r _ n).trans (range_succ_perm n (arr_perm r n))
    · rw [h1]
      exact ph_pw (arr_pw r n) fun y hy => arr_mem.mp hy
    · have := ph_asks r (putH r n).1 n
      rw [h1, arr_length] at this
      rw [h1]
      omega
def putP (r : Nat → Nat) : Nat → List Nat × Nat
  | 0 => ([], 0)
  | n + 1 => ((pb r (putP r n).1 n).1, (putP r n).2 + (pb r (putP r n).1 n).2)
theorem putP_arr (r : Nat → Nat) : ∀ n, (putP r n).1 = arr r n ∧ 2 * (putP r n).2 ≤ n * (n - 1)
  | 0 => ⟨rfl, Nat.le_refl _⟩
  | n + 1 => by
    obtain ⟨h1, h2⟩ := putP_arr r n
    unfold putP
    dsimp only
    refine ⟨?_, ?_⟩
    · rw [h1]; rfl
    · have := pb_asks r (putP r n).1 n
      rw [h1, arr_length] at this
      rw [h1]
      have e : (n + 1) * (n + 1 - 1) = n * (n - 1) + 2 * n := by
        cases n with
        | zero => rfl
        | succ m =>
          simp only [Nat.add_sub_cancel]
          rw [Nat.add_mul, Nat.mul_comm (m + 1) m, Nat.mul_succ]
          have : m * (m + 1) = m * m + m := Nat.mul_succ m m
          have : (m + 1) * m = m * m + m := Nat.succ_mul m m
          omega
      omega
end NM

/-! Two lines poured together. -/
namespace NM
theorem mem_range_of_lt {a b : Nat} (h : a < b) : a ∈ List.range b := List.mem_range.mpr h

/-! ### leaps: (place, asks) -/
def rl (r : Nat → Nat) (l : List Nat) (x s p : Nat) : Nat × Nat :=
  if p < l.length then
    if r x < r (l.getD p 0) then ((rb r l x s p).1, (rb r l x s p).2 + 1)
    else ((rl r l x (p + 1) (2 * p + 1)).1, (rl r l x (p + 1) (2 * p + 1)).2 + 1)
  else rb r l x s l.length
termination_by l.length - p
decreasing_by all_goals omega
def ll (r : Nat → Nat) (l : List Nat) (x s p : Nat) : Nat × Nat :=
  if p < l.length then
    if r (l.getD p 0) < r x then ((ll r l x (p + 1) (2 * p + 1)).1, (ll r l x (p + 1) (2 * p + 1)).2 + 1)
    else ((lb r l x s p).1, (lb r l x s p).2 + 1)
  else lb r l x s l.length
termination_by l.length - p
decreasing_by all_goals omega
theorem rl_end {r l x s p} (h : ¬ p < l.length) : rl r l x s p = rb r l x s l.length := by rw [rl, if_neg h]
theorem rl_yes {r : Nat → Nat} {l x s p} (h : p < l.length) (q : r x < r (l.getD p 0)) : rl r l x s p = ((rb r l x s p).1, (rb r l x s p).2 + 1) := by
  rw [rl, if_pos h, if_pos q]
theorem rl_no {r : Nat → Nat} {l x s p} (h : p < l.length) (q : ¬ r x < r (l.getD p 0)) : rl r l x s p = ((rl r l x (p + 1) (2 * p + 1)).1, (rl r l x (p + 1) (2 * p + 1)).2 + 1) := by
  conv => lhs; rw [rl, if_pos h, if_neg q]
theorem ll_end {r l x s p} (h : ¬ p < l.length) : ll r l x s p = lb r l x s l.length := by rw [ll, if_neg h]
theorem ll_yes {r : Nat → Nat} {l x s p} (h : p < l.length) (q : r (l.getD p 0) < r x) : ll r l x s p = ((ll r l x (p + 1) (2 * p + 1)).1, (ll r l x (p + 1) (2 * p + 1)).2 + 1) := by
  conv => lhs; rw [ll, if_pos h, if_pos q]
theorem ll_no {r : Nat → Nat} {l x s p} (h : p < l.length) (q : ¬ r (l.getD p 0) < r x) : ll r l x s p = ((lb r l x s p).1, (lb r l x s p).2 + 1) := by
  rw [ll, if_pos h, if_neg q]
theorem rl_asks (r : Nat → Nat) (l : List Nat) (x : Nat) : ∀ (k s p : Nat), l.length - p = k → p + 1 = 2 * s → s ≤ l.length → s ≤ (rl r l x s p).1 ∧ (rl r l x s p).1 ≤ l.length ∧ (rl r l x s p).2 + s ≤ 2 * (rl r l x s p).1 + 2 := by
  intro k
  induction k using Nat.strongRecOn with
  | ind k ih =>
    intro s p hk hsp hsl
    by_cases h : p < l.length
    · by_cases q : r x < r (l.getD p 0)
      · rw [rl_yes h q]
        have h1 := rb_asks r l x (p - s) s p rfl (by omega)
        have h2 : twos (p - s + 1) ≤ p - s := twos_le_self (p - s)
        dsimp only
        omega
      · rw [rl_no h q]
        have := ih (l.length - (2 * p + 1)) (by omega) (p + 1) (2 * p + 1) rfl (by omega) (by omega)
        dsimp only
        omega
    · rw [rl_end h]
      have h1 := rb_asks r l x (l.length - s) s l.length rfl hsl
      have h2 : twos (l.length - s + 1) ≤ l.length - s := twos_le_self (l.length - s)
      omega
theorem rl_asks0 (r : Nat → Nat) (l : List Nat) (x : Nat) : (rl r l x 0 0).1 ≤ l.length ∧ (rl r l x 0 0).2 ≤ 2 * (rl r l x 0 0).1 + 2 := by
  by_cases h : 0 < l.length
  · by_cases q : r x < r (l.getD 0 0)
    · rw [rl_yes h q, rb_end (Nat.lt_irrefl _)]; dsimp only; omega
    · rw [rl_no h q]
      have := rl_asks r l x (l.length - 1) 1 1 rfl rfl h
      dsimp only
      show (rl r l x 1 1).1 ≤ l.length ∧ (rl r l x 1 1).2 + 1 ≤ 2 * (rl r l x 1 1).1 + 2
      omega
  · rw [rl_end h, rb_end h]; dsimp only; omega
theorem ll_asks (r : Nat → Nat) (l : List Nat) (x : Nat) : ∀ (k s p : Nat), l.length - p = k → p + 1 = 2 * s → s ≤ l.length → s ≤ (ll r l x s p).1 ∧ (ll r l x s p).1 ≤ l.length ∧ (ll r l x s p).2 + s ≤ 2 * (ll r l x s p).1 + 2 := by
  intro k
  induction k using Nat.strongRecOn with
  | ind k ih =>
    intro s p hk hsp hsl
    by_cases h : p < l.length
    · by_cases q : r (l.getD p 0) < r x
      · rw [ll_yes h q]
        have := ih (l.length - (2 * p + 1)) (by omega) (p + 1) (2 * p + 1) rfl (by omega) (by omega)
        dsimp only
        omega
      · rw [ll_no h q]
        have h1 := lb_asks r l x (p - s) s p rfl (by omega)
        have h2 : twos (p - s + 1) ≤ p - s := twos_le_self (p - s)
        dsimp only
        omega
    · rw [ll_end h]
      have h1 := lb_asks r l x (l.length - s) s l.length rfl hsl
      have h2 : twos (l.length - s + 1) ≤ l.length - s := twos_le_self (l.length - s)
      omega
theorem ll_asks0 (r : Nat → Nat) (l : List Nat) (x : Nat) : (ll r l x 0 0).1 ≤ l.length ∧ (ll r l x 0 0).2 ≤ 2 * (ll r l x 0 0).1 + 2 := by
  by_cases h : 0 < l.length
  · by_cases q : r (l.getD 0 0) < r x
    · rw [ll_yes h q]
      have := ll_asks r l x (l.length - 1) 1 1 rfl rfl h
      dsimp only
      show (ll r l x 1 1).1 ≤ l.length ∧ (ll r l x 1 1).2 + 1 ≤ 2 * (ll r l x 1 1).1 + 2
      omega
    · rw [ll_no h q, lb_end (Nat.lt_irrefl _)]; dsimp only; omega
  · rw [ll_end h, lb_end h]; dsimp only; omega
theorem rl_place (r : Nat → Nat) (l : List Nat) (x : Nat) (hl : ∀ i j, i ≤ j → j < l.length → r (l.getD i 0) ≤ r (l.getD j 0)) : ∀ (k s p : Nat), l.length - p = k → s ≤ p → s ≤ l.length →
    (∀ j, j < s → r (l.getD j 0) ≤ r x) →
    (∀ j, j < (rl r l x s p).1 → r (l.getD j 0) ≤ r x) ∧ (∀ j, (rl r l x s p).1 ≤ j → j < l.length → r x < r (l.getD j 0)) := by
  intro k
  induction k using Nat.strongRecOn with
  | ind k ih =>
    intro s p hk hsp hsl h1
    by_cases h : p < l.length
    · by_cases q : r x < r (l.getD p 0)
      · rw [rl_yes h q]
        exact rb_place r l x hl _ s p rfl hsp (by omega) h1 fun j a b => Nat.lt_of_lt_of_le q (hl p j a b)
      · rw [rl_no h q]
        refine ih (l.length - (2 * p + 1)) (by omega) (p + 1) (2 * p + 1) rfl (by omega) (by omega) fun j hj => ?_
        have := hl j p (by omega) h
        omega
    · rw [rl_end h]
      exact rb_place r l x hl _ s l.length rfl hsl (Nat.le_refl _) h1 fun j a b => by omega
theorem ll_place (r : Nat → Nat) (l : List Nat) (x : Nat) (hl : ∀ i j, i ≤ j → j < l.length → r (l.getD i 0) ≤ r (l.getD j 0)) : ∀ (k s p : Nat), l.length - p = k → s ≤ p → s ≤ l.length →
    (∀ j, j < s → r (l.getD j 0) < r x) →
    (∀ j, j < (ll r l x s p).1 → r (l.getD j 0) < r x) ∧ (∀ j, (ll r l x s p).1 ≤ j → j < l.length → r x ≤ r (l.getD j 0)) := by
  intro k
  induction k using Nat.strongRecOn with
  | ind k ih =>
    intro s p hk hsp hsl h1
    by_cases h : p < l.length
    · by_cases q : r (l.getD p 0) < r x
      · rw [ll_yes h q]
        refine ih (l.length - (2 * p + 1)) (by omega) (p + 1) (2 * p + 1) rfl (by omega) (by omega) fun j hj => ?_
        have := hl j p (by omega) h
        omega
      · rw [ll_no h q]
        exact lb_place r l x hl _ s p rfl hsp (by omega) h1 fun j a b => Nat.le_trans (by omega) (hl p j a b)
    · rw [ll_end h]
      exact lb_place r l x hl _ s l.length rfl hsl (Nat.le_refl _) h1 fun j a b => by omega

/-! ### plainly -/
def pl (r : Nat → Nat) : List Nat → List Nat → List Nat × Nat
  | [], o => (o, 0)
  | a :: as, [] => (a :: as, 0)
  | a :: as, b :: bs => if r b < r a then (b :: (pl r (a :: as) bs).1, (pl r (a :: as) bs).2 + 1) else (a :: (pl r as (b :: bs)).1, (pl r as (b :: bs)).2 + 1)
termination_by l o => l.length + o.length
theorem pl_nil (r : Nat → Nat) (o : List Nat) : pl r [] o = (o, 0) := by rw [pl]
theorem pl_nil2 (r : Nat → Nat) (o : List Nat) : pl r o [] = (o, 0) := by cases o <;> rw [pl]
theorem pl_yes {r : Nat → Nat} {a b : Nat} {as bs : List Nat} (q : r b < r a) : pl r (a :: as) (b :: bs) = (b :: (pl r (a :: as) bs).1, (pl r (a :: as) bs).2 + 1) := by
  conv => lhs; rw [pl, if_pos q]
theorem pl_no {r : Nat → Nat} {a b : Nat} {as bs : List Nat} (q : ¬ r b < r a) : pl r (a :: as) (b :: bs) = (a :: (pl r as (b :: bs)).1, (pl r as (b :: bs)).2 + 1) := by
  conv => lhs; rw [pl, if_neg q]
theorem pl_asks (r : Nat → Nat) : ∀ (k : Nat) (l o : List Nat), l.length + o.length = k → (pl r l o).2 ≤ k := by
  intro k
  induction k with
  | zero =>
    intro l o h
    cases l with
    | nil => rw [pl_nil]; exact Nat.le_refl _
    | cons a as => simp at h
  | succ k ih =>
    intro l o h
    match l, o, h with
    | [], o, h => rw [pl_nil]; exact Nat.zero_le _
    | a :: as, [], h => rw [pl_nil2]; exact Nat.zero_le _
    | a :: as, b :: bs, h =>
      simp only [List.length_cons] at h
      by_cases q : r b < r a
      · rw [pl_yes q]
        have := ih (a :: as) bs (by simp only [List.length_cons]; omega)
        dsimp only; omega
      · rw [pl_no q]
        have := ih as (b :: bs) (by simp only [List.length_cons]; omega)
        dsimp only; omega
theorem pl_perm (r : Nat → Nat) : ∀ (k : Nat) (l o : List Nat), l.length + o.length = k → (pl r l o).1.Perm (l ++ o) := by
  intro k
  induction k with
  | zero =>
    intro l o h
    cases l with
    | nil => rw [pl_nil]; exact List.Perm.refl _
    | cons a as => simp at h
  | succ k ih =>
    intro l o h
    match l, o, h with
    | [], o, h => rw [pl_nil]; exact List.Perm.refl _
    | a :: as, [], h => rw [pl_nil2, List.append_nil]
    | a :: as, b :: bs, h =>
      simp only [List.length_cons] at h
      by_cases q : r b < r a
      · rw [pl_yes q]
        have := ih (a :: as) bs (by simp only [List.length_cons]; omega)
        exact ((List.perm_cons b).mpr this).trans List.perm_middle.symm
      · rw [pl_no q]
        have := ih as (b :: bs) (by simp only [List.length_cons]; omega)
        exact (List.perm_cons a).mpr this
theorem pl_pw (r : Nat → Nat) : ∀ (k : Nat) (l o : List Nat), l.length + o.length = k → l.Pairwise (ah r) → o.Pairwise (ah r) → (∀ a ∈ l, ∀ b ∈ o, a < b) → (pl r l o).1.Pairwise (ah r) := by
  intro k
  induction k with
  | zero =>
    intro l o h h1 h2 h3
    cases l with
    | nil => rw [pl_nil]; exact h2
    | cons a as => simp at h
  | succ k ih =>
    intro l o h h1 h2 h3
    match l, o, h, h1, h2, h3 with
    | [], o, h, h1, h2, h3 => rw [pl_nil]; exact h2
    | a :: as, [], h, h1, h2, h3 => rw [pl_nil2]; exact h1
    | a :: as, b :: bs, h, h1, h2, h3 =>
      simp only [List.length_cons] at h
      by_cases q : r b < r a
      · rw [pl_yes q]
        have e : (a :: as).length + bs.length = k := by simp only [List.length_cons]; omega
        have h2' := List.pairwise_cons.mp h2
        refine List.pairwise_cons.mpr ⟨fun y hy => ?_, ih (a :: as) bs e h1 h2'.2 fun x hx y hy => h3 x hx y (List.mem_cons_of_mem _ hy)⟩
        have hy' := (pl_perm r k (a :: as) bs e).subset hy
        rcases List.mem_append.mp hy' with m | m
        · rcases List.mem_cons.mp m with m | m
          · subst m; exact .inl q
          · have := ah_le ((List.pairwise_cons.mp h1).1 y m)
            exact .inl (by omega)
        · exact h2'.1 y m
      · rw [pl_no q]
        have e : as.length + (b :: bs).length = k := by simp only [List.length_cons]; omega
        have h1' := List.pairwise_cons.mp h1
        have hab : ah r a b := by
          have := h3 a (by simp) b (by simp)
          unfold ah; omega
        refine List.pairwise_cons.mpr ⟨fun y hy => ?_, ih as (b :: bs) e h1'.2 h2 fun x hx y hy => h3 x (List.mem_cons_of_mem _ hx) y hy⟩
        have hy' := (pl_perm r k as (b :: bs) e).subset hy
        rcases List.mem_append.mp hy' with m | m
        · exact h1'.1 y m
        · rcases List.mem_cons.mp m with m | m
          · subst m; exact hab
          · exact ah_trans hab ((List.pairwise_cons.mp h2).1 y m)

/-! ### by leaps -/
def lp (r : Nat → Nat) (l o : List Nat) : List Nat × Nat :=
  if l ≠ [] ∧ o ≠ [] then
    if l.drop (rl r l (o.getD 0 0) 0 0).1 ≠ [] ∧ o.drop 1 ≠ [] then
      (l.take (rl r l (o.getD 0 0) 0 0).1 ++ o.take 1 ++ ((o.drop 1).take (ll r (o.drop 1) ((l.drop (rl r l (o.getD 0 0) 0 0).1).getD 0 0) 0 0).1 ++ (l.drop (rl r l (o.getD 0 0) 0 0).1).take 1 ++
        (lp r ((l.drop (rl r l (o.getD 0 0) 0 0).1).drop 1) ((o.drop 1).drop (ll r (o.drop 1) ((l.drop (rl r l (o.getD 0 0) 0 0).1).getD 0 0) 0 0).1)).1),
       (lp r ((l.drop (rl r l (o.getD 0 0) 0 0).1).drop 1) ((o.drop 1).drop (ll r (o.drop 1) ((l.drop (rl r l (o.getD 0 0) 0 0).1).getD 0 0) 0 0).1)).2 + (ll r (o.drop 1) ((l.drop (rl r l (o.getD 0 0) 0 0).1).getD 0 0) 0 0).2 + (rl r l (o.getD 0 0) 0 0).2)
    else (l.take (rl r l (o.getD 0 0) 0 0).1 ++ o.take 1 ++ (l.drop (rl r l (o.getD 0 0) 0 0).1 ++ o.drop 1), (rl r l (o.getD 0 0) 0 0).2)
  else (l ++ o, 0)
termination_by l.length + o.length
decreasing_by
  all_goals
    rename_i h _
    have : 0 < l.length := List.length_pos_iff.mpr h.1
    have : 0 < o.length := List.length_pos_iff.mpr h.2
    simp only [List.length_drop]
    omega
theorem lp_end {r : Nat → Nat} {l o : List Nat} (h : ¬ (l ≠ [] ∧ o ≠ [])) : lp r l o = (l ++ o, 0) := by rw [lp, if_neg h]
theorem lp_one {r : Nat → Nat} {l o : List Nat} (h : l ≠ [] ∧ o ≠ []) {p c : Nat} (ep : rl r l (o.getD 0 0) 0 0 = (p, c)) (h2 : ¬ (l.drop p ≠ [] ∧ o.drop 1 ≠ [])) :
    lp r l o = (l.take p ++ o.take 1 ++ (l.drop p ++ o.drop 1), c) := by
  have e1 : (rl r l (o.getD 0 0) 0 0).1 = p := by rw [ep]
  have e2 : (rl r l (o.getD 0 0) 0 0).2 = c := by rw [ep]
  rw [lp, if_pos h, e1, e2, if_neg h2]
theorem lp_two {r : Nat → Nat} {l o : List Nat} (h : l ≠ [] ∧ o ≠ []) {p c q d : Nat} (ep : rl r l (o.getD 0 0) 0 0 = (p, c)) (h2 : l.drop p ≠ [] ∧ o.drop 1 ≠ []) (eq : ll r (o.drop 1) ((l.drop p).getD 0 0) 0 0 = (q, d)) :
    lp r l o = (l.take p ++ o.take 1 ++ ((o.drop 1).take q ++ (l.drop p).take 1 ++ (lp r ((l.drop p).drop 1) ((o.drop 1).drop q)).1), (lp r ((l.drop p).drop 1) ((o.drop 1).drop q)).2 + d + c) := by
  have e1 : (rl r l (o.getD 0 0) 0 0).1 = p := by rw [ep]
  have e2 : (rl r l (o.getD 0 0) 0 0).2 = c := by rw [ep]
  have e3 : (ll r (o.drop 1) ((l.drop p).getD 0 0) 0 0).1 = q := by rw [eq]
  have e4 : (ll r (o.drop 1) ((l.drop p).getD 0 0) 0 0).2 = d := by rw [eq]
  conv => lhs; rw [lp, if_pos h, e1, e2, if_pos h2, e3, e4]
theorem lp_asks (r : Nat → Nat) : ∀ (k : Nat) (l o : List Nat), l.length + o.length = k → (lp r l o).2 ≤ 2 * k := by
  intro k
  induction k using Nat.strongRecOn with
  | ind k ih =>
    intro l o hk
    by_cases h : l ≠ [] ∧ o ≠ []
    · have hl : 0 < l.length := List.length_pos_iff.mpr h.1
      have ho : 0 < o.length := List.length_pos_iff.mpr h.2
      rcases ep : rl r l (o.getD 0 0) 0 0 with ⟨p, c⟩
      have hp := rl_asks0 r l (o.getD 0 0)
      rw [ep] at hp
      dsimp only at hp
      by_cases h2 : l.drop p ≠ [] ∧ o.drop 1 ≠ []
      · rcases eq : ll r (o.drop 1) ((l.drop p).getD 0 0) 0 0 with ⟨q, d⟩
        have hq := ll_asks0 r (o.drop 1) ((l.drop p).getD 0 0)
        rw [eq] at hq
        dsimp only at hq
        rw [lp_two h ep h2 eq]
        have hl2 : 0 < (l.drop p).length := List.length_pos_iff.mpr h2.1
        have ho2 : 0 < (o.drop 1).length := List.length_pos_iff.mpr h2.2
        rw [List.length_drop] at hl2 ho2 hq
        have := ih (((l.drop p).drop 1).length + ((o.drop 1).drop q).length) (by simp only [List.length_drop]; omega) _ _ rfl
        simp only [List.length_drop] at this ⊢
        omega
      · rw [lp_one h ep h2]
        dsimp only
        omega
    · rw [lp_end h]; exact Nat.zero_le _
theorem take1_cons {l : List Nat} (h : l ≠ []) : l = l.getD 0 0 :: l.drop 1 ∧ l.take 1 = [l.getD 0 0] := by
  cases l with
  | nil => exact absurd rfl h
  | cons a as => exact ⟨rfl, rfl⟩
theorem perm_mid {A B C : List Nat} (x : Nat) : (A ++ [x] ++ (B ++ C)).Perm ((A ++ B) ++ (x :: C)) := by
  rw [List.append_assoc, List.append_assoc]
  refine List.Perm.append_left A ?_
  show (x :: (B ++ C)).Perm (B ++ x :: C)
  exact List.perm_middle.symm
theorem lp_perm (r : Nat → Nat) : ∀ (k : Nat) (l o : List Nat), l.length + o.length = k → (lp r l o).1.Perm (l ++ o) := by
  intro k
  induction k using Nat.strongRecOn with
  | ind k ih =>
    intro l o hk
    by_cases h : l ≠ [] ∧ o ≠ []
    · have hl : 0 < l.length := List.length_pos_iff.mpr h.1
      have ho : 0 < o.length := List.length_pos_iff.mpr h.2
      rcases ep : rl r l (o.getD 0 0) 0 0 with ⟨p, c⟩
      obtain ⟨eo, eo1⟩ := take1_cons h.2
      by_cases h2 : l.drop p ≠ [] ∧ o.drop 1 ≠ []
      · rcases eq : ll r (o.drop 1) ((l.drop p).getD 0 0) 0 0 with ⟨q, d⟩
        rw [lp_two h ep h2 eq]
        have hl2 : 0 < (l.drop p).length := List.length_pos_iff.mpr h2.1
        obtain ⟨el, el1⟩ := take1_cons h2.1
        have := ih (((l.drop p).drop 1).length + ((o.drop 1).drop q).length) (by simp only [List.length_drop] at hl2 ⊢; omega) _ _ rfl
        dsimp only
        rw [eo1, el1]
        have s1 : (List.take q (o.drop 1) ++ [(l.drop p).getD 0 0] ++ (lp r ((l.drop p).drop 1) ((o.drop 1).drop q)).1).Perm (l.drop p ++ o.drop 1) := by
          refine (List.Perm.append_left _ this).trans ?_
          refine (List.Perm.append_left _ (List.perm_append_comm)).trans ?_
          refine (perm_mid _).trans ?_
          rw [List.take_append_drop, ← el]
          exact List.perm_append_comm
        refine (List.Perm.append_left _ s1).trans ?_
        refine (perm_mid _).trans ?_
        rw [List.take_append_drop, ← eo]
      · rw [lp_one h ep h2]
        dsimp only
        rw [eo1]
        refine (perm_mid _).trans ?_
        rw [List.take_append_drop, ← eo]
    · rw [lp_end h]
theorem pw_step {r : Nat → Nat} {A R : List Nat} {m : Nat} (hA : A.Pairwise (ah r)) (h1 : ∀ a ∈ A, ah r a m) (hR : R.Pairwise (ah r)) (h2 : ∀ y ∈ R, ah r m y) : (A ++ [m] ++ R).Pairwise (ah r) := by
  rw [List.append_assoc, List.pairwise_append]
  refine ⟨hA, ?_, ?_⟩
  · show (m :: R).Pairwise (ah r)
    exact List.pairwise_cons.mpr ⟨h2, hR⟩
  · intro a ha b hb
    rcases List.mem_cons.mp (show b ∈ m :: R from hb) with e | e
    · subst e; exact h1 a ha
    · exact ah_trans (h1 a ha) (h2 b e)
theorem lp_pw (r : Nat → Nat) : ∀ (k : Nat) (l o : List Nat), l.length + o.length = k → l.Pairwise (ah r) → o.Pairwise (ah r) → (∀ a ∈ l, ∀ b ∈ o, a < b) → (lp r l o).1.Pairwise (ah r) := by
  intro k
  induction k using Nat.strongRecOn with
  | ind k ih =>
    intro l o hk h1 h2 h3
    by_cases h : l ≠ [] ∧ o ≠ []
    · have hl : 0 < l.length := List.length_pos_iff.mpr h.1
      have ho : 0 < o.length := List.length_pos_iff.mpr h.2
      rcases ep : rl r l (o.getD 0 0) 0 0 with ⟨p, c⟩
      obtain ⟨eo, eo1⟩ := take1_cons h.2
      have hp := rl_place r l (o.getD 0 0) (fun i j a b => pw_rank h1 a b) _ 0 0 rfl (Nat.le_refl _) (Nat.zero_le _) (fun j hj => by omega)
      rw [ep] at hp
      dsimp only at hp
      have hb0 : o.getD 0 0 ∈ o := getD_mem ho
      have hA : ∀ a ∈ l.take p, ah r a (o.getD 0 0) := fun a ha => by
        obtain ⟨j, hj, hjl, e⟩ := mem_take_get ha
        have := hp.1 j hj
        rw [e] at this
        have := h3 a (List.mem_of_mem_take ha) _ hb0
        unfold ah; omega
      have hB : ∀ y ∈ l.drop p, r (o.getD 0 0) < r y := fun y hy => by
        obtain ⟨j, hj, hjl, e⟩ := mem_drop_get hy
        have := hp.2 j hj hjl
        rw [e] at this
        exact this
      have hC : ∀ y ∈ o.drop 1, ah r (o.getD 0 0) y := fun y hy => by
        rw [eo] at h2
        exact (List.pairwise_cons.mp h2).1 y (by simpa using hy)
      by_cases h4 : l.drop p ≠ [] ∧ o.drop 1 ≠ []
      · rcases eq : ll r (o.drop 1) ((l.drop p).getD 0 0) 0 0 with ⟨q, d⟩
        rw [lp_two h ep h4 eq]
        have hl2 : 0 < (l.drop p).length := List.length_pos_iff.mpr h4.1
        obtain ⟨el, el1⟩ := take1_cons h4.1
        have hq := ll_place r (o.drop 1) ((l.drop p).getD 0 0) (fun i j a b => pw_rank (pw_drop h2 1) a b) _ 0 0 rfl (Nat.le_refl _) (Nat.zero_le _) (fun j hj => by omega)
        rw [eq] at hq
        dsimp only at hq
        have ha0 : (l.drop p).getD 0 0 ∈ l.drop p := getD_mem hl2
        have hrec := ih (((l.drop p).drop 1).length + ((o.drop 1).drop q).length) (by simp only [List.length_drop] at hl2 ⊢; omega) _ _ rfl (pw_drop (pw_drop h1 p) 1) (pw_drop (pw_drop h2 1) q)
          fun a ha b hb => h3 a (List.mem_of_mem_drop (List.mem_of_mem_drop ha)) b (List.mem_of_mem_drop (List.mem_of_mem_drop hb))
        have hpr := lp_perm r _ ((l.drop p).drop 1) ((o.drop 1).drop q) rfl
        dsimp only
        rw [eo1, el1]
        have hin : (List.take q (o.drop 1) ++ [(l.drop p).getD 0 0] ++ (lp r ((l.drop p).drop 1) ((o.drop 1).drop q)).1).Pairwise (ah r) := by
          refine pw_step (pw_take (pw_drop h2 1) q) (fun a ha => ?_) hrec fun y hy => ?_
          · obtain ⟨j, hj, hjl, e⟩ := mem_take_get ha
            have := hq.1 j hj
            rw [e] at this
            exact .inl this
          · rcases List.mem_append.mp (hpr.subset hy) with m | m
            · have h5 := pw_drop h1 p
              rw [el] at h5
              exact (List.pairwise_cons.mp h5).1 y (by simpa using m)
            · obtain ⟨j, hj, hjl, e⟩ := mem_drop_get m
              have := hq.2 j hj hjl
              rw [e] at this
              have := h3 _ (List.mem_of_mem_drop ha0) y (List.mem_of_mem_drop (List.mem_of_mem_drop m))
              unfold ah; omega
        refine pw_step (pw_take h1 p) hA hin fun y hy => ?_
        have hy2 : y ∈ l.drop p ∨ y ∈ o.drop 1 := by
          rcases List.mem_append.mp hy with m | m
          · rcases List.mem_append.mp m with m | m
            · exact .inr (List.mem_of_mem_take m)
            · rw [List.mem_singleton] at m
              subst m; exact .inl ha0
          · rcases List.mem_append.mp (hpr.subset m) with m | m
            · exact .inl (List.mem_of_mem_drop m)
            · exact .inr (List.mem_of_mem_drop m)
        rcases hy2 with m | m
        · exact .inl (hB y m)
        · exact hC y m
      · rw [lp_one h ep h4]
        dsimp only
        rw [eo1]
        refine pw_step (pw_take h1 p) hA ?_ fun y hy => ?_
        · rw [List.pairwise_append]
          refine ⟨pw_drop h1 p, pw_drop h2 1, fun a ha b hb => ?_⟩
          exact absurd ⟨List.ne_nil_of_mem ha, List.ne_nil_of_mem hb⟩ h4
        · rcases List.mem_append.mp hy with m | m
          · exact .inl (hB y m)
          · exact hC y m
    · rw [lp_end h]
      rw [List.pairwise_append]
      exact ⟨h1, h2, fun a ha b hb => absurd ⟨List.ne_nil_of_mem ha, List.ne_nil_of_mem hb⟩ h⟩

/-! ### in a manner: true is by leaps -/
def pr (r : Nat → Nat) (m : Bool) (l o : List Nat) : List Nat × Nat := if m = true then lp r l o else pl r l o
def wt (m : Bool) : Nat := if m = true then 2 else 1
theorem pr_asks (r : Nat → Nat) (m : Bool) (l o : List Nat) : (pr r m l o).2 ≤ wt m * (l.length + o.length) := by
  cases m with
  | true => exact lp_asks r _ l o rfl
  | false => show (pl r l o).2 ≤ 1 * _; rw [Nat.one_mul]; exact pl_asks r _ l o rfl
theorem pr_perm (r : Nat → Nat) (m : Bool) (l o : List Nat) : (pr r m l o).1.Perm (l ++ o) := by
  cases m with
  | true => exact lp_perm r _ l o rfl
  | false => exact pl_perm r _ l o rfl
theorem pr_pw {r : Nat → Nat} (m : Bool) {l o : List Nat} (h1 : l.Pairwise (ah r)) (h2 : o.Pairwise (ah r)) (h3 : ∀ a ∈ l, ∀ b ∈ o, a < b) : (pr r m l o).1.Pairwise (ah r) := by
  cases m with
  | true => exact lp_pw r _ l o rfl h1 h2 h3
  | false => exact pl_pw r _ l o rfl h1 h2 h3
theorem pr_length (r : Nat → Nat) (m : Bool) (l o : List Nat) : (pr r m l o).1.length = l.length + o.length := by
  rw [(pr_perm r m l o).length_eq, List.length_append]
end NM

/-! Runs, filled up; powers; the pile; the whole row in order. -/
namespace NM

/-! ### a run -/
def re (r : Nat → Nat) (N : Nat) (f : Bool) (e : Nat) : Nat × Nat :=
  if e < N then
    if decide (r e < r (e - 1)) = f then ((re r N f (e + 1)).1, (re r N f (e + 1)).2 + 1) else (e, 1)
  else (e, 0)
termination_by N - e
theorem re_end {r N f e} (h : ¬ e < N) : re r N f e = (e, 0) := by rw [re, if_neg h]
theorem re_yes {r : Nat → Nat} {N : Nat} {f : Bool} {e : Nat} (h : e < N) (q : decide (r e < r (e - 1)) = f) : re r N f e = ((re r N f (e + 1)).1, (re r N f (e + 1)).2 + 1) := by
  conv => lhs; rw [re, if_pos h, if_pos q]
theorem re_no {r : Nat → Nat} {N : Nat} {f : Bool} {e : Nat} (h : e < N) (q : ¬ decide (r e < r (e - 1)) = f) : re r N f e = (e, 1) := by
  rw [re, if_pos h, if_neg q]
theorem re_all (r : Nat → Nat) (N : Nat) (f : Bool) : ∀ (k e : Nat), N - e = k → e ≤ N → e ≤ (re r N f e).1 ∧ (re r N f e).1 ≤ N ∧ (re r N f e).2 + e ≤ (re r N f e).1 + 1 ∧ ((re r N f e).1 = N → (re r N f e).2 + e ≤ (re r N f e).1) ∧
    ∀ j, e ≤ j → j < (re r N f e).1 → decide (r j < r (j - 1)) = f := by
  intro k
  induction k with
  | zero =>
    intro e hk he
    rw [re_end (by omega)]
    exact ⟨Nat.le_refl _, he, by dsimp only; omega, fun _ => by dsimp only; omega, fun j a b => by dsimp only at b; omega⟩
  | succ k ih =>
    intro e hk he
    by_cases q : decide (r e < r (e - 1)) = f
    · rw [re_yes (by omega) q]
      obtain ⟨h1, h2, h3, h4, h5⟩ := ih (e + 1) (by omega) (by omega)
      refine ⟨by dsimp only; omega, h2, by dsimp only; omega, fun h => ?_, fun j a b => ?_⟩
      · have := h4 h
        dsimp only at h ⊢
        omega
      · by_cases hj : j = e
        · subst hj; exact q
        · exact h5 j (by omega) b
    · rw [re_no (by omega) q]
      exact ⟨Nat.le_refl _, he, by dsimp only; omega, fun h => by dsimp only at h; omega, fun j a b => by dsimp only at b; omega⟩
/-- (length, falls, asks) -/
def run (r : Nat → Nat) (N s : Nat) : Nat × Bool × Nat :=
  if s + 1 = N then (1, false, 0)
  else ((re r N (decide (r (s + 1) < r s)) (s + 2)).1 - s, decide (r (s + 1) < r s), (re r N (decide (r (s + 1) < r s)) (s + 2)).2 + 1)
def runLine (s len : Nat) (falls : Bool) : List Nat := if falls = true then (List.range' s len).reverse else List.range' s len
theorem run_all {r : Nat → Nat} {N s : Nat} (hs : s < N) : 1 ≤ (run r N s).1 ∧ s + (run r N s).1 ≤ N ∧ (run r N s).2.2 ≤ (run r N s).1 ∧ (s + (run r N s).1 = N → (run r N s).2.2 + 1 ≤ (run r N s).1) ∧
    ∀ j, s < j → j < s + (run r N s).1 → decide (r j < r (j - 1)) = (run r N s).2.1 := by
  unfold run
  by_cases h : s + 1 = N
  · rw [if_pos h]
    exact ⟨Nat.le_refl _, by dsimp only; omega, Nat.zero_le _, fun _ => Nat.le_refl _, fun j a b => by dsimp only at b; omega⟩
  · rw [if_neg h]
    obtain ⟨h1, h2, h3, h4, h5⟩ := re_all r N (decide (r (s + 1) < r s)) (N - (s + 2)) (s + 2) rfl (by omega)
    dsimp only
    refine ⟨by omega, by omega, by omega, fun e => ?_, fun j a b => ?_⟩
    · have := h4 (by omega); omega
    · by_cases hj : j = s + 1
      · subst hj; rfl
      · exact h5 j (by omega) (by omega)
theorem pw_range {R : Nat → Nat → Prop} (tr : ∀ x y z, R x y → R y z → R x z) : ∀ (n s : Nat), (∀ j, s < j → j < s + n → R (j - 1) j) → (List.range' s n).Pairwise R
  | 0, _, _ => List.Pairwise.nil
  | n + 1, s, h => by
    rw [List.range'_succ]
    refine List.pairwise_cons.mpr ⟨fun y hy => ?_, pw_range tr n (s + 1) fun j a b => h j (by omega) (by omega)⟩
    obtain ⟨h1, h2⟩ := List.mem_range'_1.mp hy
    -- from s to y by steps
    have key : ∀ k, s + 1 + k ≤ y → R s (s + 1 + k) := by
      intro k
      induction k with
      | zero => intro _; have := h (s + 1) (by omega) (by omega); simpa using this
      | succ k ih =>
        intro hk
        have a := ih (by omega)
        have b := h (s + 1 + (k + 1)) (by omega) (by omega)
        have e : s + 1 + (k + 1) - 1 = s + 1 + k := by omega
        rw [e] at b
        exact tr _ _ _ a b
    have := key (y - (s + 1)) (by omega)
    have e : s + 1 + (y - (s + 1)) = y := by omega
    rw [e] at this
    exact this
theorem runLine_perm (s len : Nat) (f : Bool) : (runLine s len f).Perm (List.range' s len) := by
  unfold runLine
  cases f
  · exact List.Perm.refl _
  · exact List.reverse_perm _
theorem runLine_length (s len : Nat) (f : Bool) : (runLine s len f).length = len := by rw [(runLine_perm s len f).length_eq, List.length_range']
theorem run_pw {r : Nat → Nat} {N s : Nat} (hs : s < N) : (runLine s (run r N s).1 (run r N s).2.1).Pairwise (ah r) := by
  obtain ⟨h1, h2, h3, h4, h5⟩ := run_all (r := r) hs
  unfold runLine
  cases hf : (run r N s).2.1 with
  | false =>
    rw [if_neg (by decide)]
    refine pw_range (R := ah r) (fun _ _ _ a b => ah_trans a b) _ _ fun j a b => ?_
    have := h5 j a b
    rw [hf] at this
    have := of_decide_eq_false this
    unfold ah; omega
  | true =>
    rw [if_pos rfl, List.pairwise_reverse]
    refine pw_range (R := fun a b => ah r b a) (fun _ _ _ a b => ah_trans b a) _ _ fun j a b => ?_
    have := h5 j a b
    rw [hf] at this
    have := of_decide_eq_true this
    exact .inl this

/-! ### filled up -/
def fl (r : Nat → Nat) (N fill : Nat) (l : List Nat) (e : Nat) : List Nat × Nat :=
  if l.length < fill ∧ e < N then ((fl r N fill (ph r l e).1 (e + 1)).1, (fl r N fill (ph r l e).1 (e + 1)).2 + (ph r l e).2) else (l, 0)
termination_by N - e
decreasing_by all_goals omega
theorem fl_end {r N fill l e} (h : ¬ (l.length < fill ∧ e < N)) : fl r N fill l e = (l, 0) := by rw [fl, if_neg h]
theorem fl_yes {r N fill l e} (h : l.length < fill ∧ e < N) : fl r N fill l e = ((fl r N fill (ph r l e).1 (e + 1)).1, (fl r N fill (ph r l e).1 (e + 1)).2 + (ph r l e).2) := by
  conv => lhs; rw [fl, if_pos h]
theorem ph_length (r : Nat → Nat) (l : List Nat) (x : Nat) : (ph r l x).1.length = l.length + 1 := insAt_length _ _ _
theorem fl_all (r : Nat → Nat) (N fill s : Nat) : ∀ (k : Nat) (l : List Nat) (e : Nat), N - e = k → e ≤ N → l.length + s = e → l.Perm (List.range' s l.length) → l.Pairwise (ah r) →
    l.length ≤ (fl r N fill l e).1.length ∧ s + (fl r N fill l e).1.length ≤ N ∧ (fl r N fill l e).1.Perm (List.range' s (fl r N fill l e).1.length) ∧ (fl r N fill l e).1.Pairwise (ah r) ∧
    (fill ≤ (fl r N fill l e).1.length ∨ s + (fl r N fill l e).1.length = N) ∧ (fl r N fill l e).2 ≤ ((fl r N fill l e).1.length - l.length) * twos fill := by
  intro k
  induction k with
  | zero =>
    intro l e hk he hl hp hw
    rw [fl_end (by omega)]
    exact ⟨Nat.le_refl _, by dsimp only; omega, hp, hw, .inr (by dsimp only; omega), by dsimp only; omega⟩
  | succ k ih =>
    intro l e hk he hl hp hw
    by_cases h : l.length < fill ∧ e < N
    · rw [fl_yes h]
      have hlen := ph_length r l e
      obtain ⟨a1, a2, a3, a4, a5, a6⟩ := ih (ph r l e).1 (e + 1) (by omega) (by omega) (by omega) (by
        rw [hlen, List.range'_concat, Nat.one_mul]
        refine (ph_perm r l e).trans ?_
        rw [show s + l.length = e by omega]
        exact ((List.perm_cons e).mpr hp).trans (List.perm_append_comm (l₁ := [e]))) (ph_pw hw fun y hy => by
          have := List.mem_range'_1.mp (hp.subset hy)
          omega)
      refine ⟨by dsimp only; omega, a2, a3, a4, a5, ?_⟩
      have b1 := ph_asks r l e
      have b2 : twos (l.length + 1) ≤ twos fill := twos_mono (by omega)
      dsimp only
      generalize (fl r N fill (ph r l e).1 (e + 1)).1.length = z at *
      have e1 : z - l.length = (z - (ph r l e).1.length) + 1 := by omega
      rw [e1, Nat.add_mul, Nat.one_mul]
      omega
    · rw [fl_end h]
      exact ⟨Nat.le_refl _, by dsimp only; omega, hp, hw, by dsimp only; omega, by dsimp only; omega⟩
def filledAt (r : Nat → Nat) (N fill s : Nat) : List Nat × Nat :=
  ((fl r N fill (runLine s (run r N s).1 (run r N s).2.1) (s + (run r N s).1)).1, (fl r N fill (runLine s (run r N s).1 (run r N s).2.1) (s + (run r N s).1)).2 + (run r N s).2.2)
theorem filledAt_all {r : Nat → Nat} {N s : Nat} (fill : Nat) (hs : s < N) : 1 ≤ (filledAt r N fill s).1.length ∧ s + (filledAt r N fill s).1.length ≤ N ∧ (filledAt r N fill s).1.Perm (List.range' s (filledAt r N fill s).1.length) ∧
    (filledAt r N fill s).1.Pairwise (ah r) ∧ (fill ≤ (filledAt r N fill s).1.length ∨ s + (filledAt r N fill s).1.length = N) ∧
    (filledAt r N fill s).2 ≤ (filledAt r N fill s).1.length * (1 + twos fill) ∧ (s + (filledAt r N fill s).1.length = N → (filledAt r N fill s).2 ≤ ((filledAt r N fill s).1.length - 1) * (1 + twos fill)) := by
  obtain ⟨h1, h2, h3, h4, h5⟩ := run_all (r := r) hs
  have hl := runLine_length s (run r N s).1 (run r N s).2.1
  obtain ⟨a1, a2, a3, a4, a5, a6⟩ := fl_all r N fill s _ (runLine s (run r N s).1 (run r N s).2.1) (s + (run r N s).1) rfl h2 (by omega) (by rw [hl]; exact runLine_perm _ _ _) (run_pw hs)
  unfold filledAt
  dsimp only
  rw [hl] at a1 a6
  generalize hz : (fl r N fill (runLine s (run r N s).1 (run r N s).2.1) (s + (run r N s).1)) = z at *
  refine ⟨by omega, a2, a3, a4, a5, ?_, fun e => ?_⟩
  · have e1 : z.1.length = (z.1.length - (run r N s).1) + (run r N s).1 := by omega
    rw [Nat.mul_add, Nat.mul_one]
    have : (z.1.length - (run r N s).1) * twos fill ≤ z.1.length * twos fill := Nat.mul_le_mul_right _ (by omega)
    omega
  · by_cases q : s + (run r N s).1 = N
    · have q1 := h4 q
      have : (z.1.length - (run r N s).1) = 0 := by omega
      rw [this, Nat.zero_mul] at a6
      have : (z.1.length - 1) * (1 + twos fill) ≥ z.1.length - 1 := Nat.le_mul_of_pos_right _ (by omega)
      omega
    · have : (z.1.length - (run r N s).1) * twos fill ≤ (z.1.length - 1) * twos fill := Nat.mul_le_mul_right _ (by omega)
      rw [Nat.mul_add, Nat.mul_one]
      omega

/-! ### the power of a border -/
/-- A in the level q -/
def lv (N q A : Nat) : Nat := A * 2 ^ q / (2 * N)
theorem lv_mono {N q A B : Nat} (h : A ≤ B) : lv N q A ≤ lv N q B := Nat.div_le_div_right (Nat.mul_le_mul_right _ h)
theorem lv_half {N q A : Nat} (hN : 0 < N) : lv N q A = lv N (q + 1) A / 2 := by
  unfold lv
  rw [Nat.pow_succ, ← Nat.mul_assoc, Nat.div_div_eq_div_mul, Nat.mul_div_mul_right _ _ (by decide : 0 < 2)]
theorem lv_down {N A B : Nat} (hN : 0 < N) {q d : Nat} (hqd : q ≤ d) (h : lv N d A = lv N d B) : lv N q A = lv N q B := by
  induction d with
  | zero =>
    have : q = 0 := by omega
    subst this; exact h
  | succ d ih =>
    by_cases e : q = d + 1
    · subst e; exact h
    · refine ih (by omega) ?_
      have e1 := lv_half (q := d) (A := A) hN
      have e2 := lv_half (q := d) (A := B) hN
      rw [e1, e2, h]
theorem lv_zero {N A : Nat} (h : A < 2 * N) : lv N 0 A = 0 := by unfold lv; rw [Nat.pow_zero, Nat.mul_one]; exact Nat.div_eq_of_lt h
structure IsPow (N A B P : Nat) : Prop where
  pos : 1 ≤ P
  ne : lv N P A ≠ lv N P B
  eq : ∀ q, q < P → lv N q A = lv N q B
theorem IsPow.uniq {N A B P P' : Nat} (h : IsPow N A B P) (h' : IsPow N A B P') : P = P' := by
  rcases Nat.lt_trichotomy P P' with k | k | k
  · exact absurd (h'.eq _ k) h.ne
  · exact k
  · exact absurd (h.eq _ k) h'.ne
/-- at its power's level the border's first middle is even, the second one odd -/
theorem IsPow.odd {N A B P : Nat} (hN : 0 < N) (hAB : A ≤ B) (h : IsPow N A B P) : lv N P A % 2 = 0 ∧ lv N P B % 2 = 1 := by
  obtain ⟨q, rfl⟩ : ∃ q, P = q + 1 := ⟨P - 1, by have := h.pos; omega⟩
  have e := h.eq q (by omega)
  rw [lv_half hN, lv_half hN (A := B)] at e
  have := lv_mono (N := N) (q := q + 1) hAB
  have := h.ne
  omega
/-- a bound of it -/
theorem IsPow.le {N A B P Q : Nat} (hN : 0 < N) (h : IsPow N A B P) (hQ : 1 ≤ Q) (hd : 2 * N ≤ 2 ^ Q * (B - A)) : P ≤ Q := by
  rcases Nat.lt_or_ge Q P with k | k
  · have e := h.eq Q k
    unfold lv at e
    have hAB : A ≤ B := by
      rcases Nat.lt_or_ge B A with z | z
      · have : B - A = 0 := by omega
        rw [this, Nat.mul_zero] at hd
        omega
      · exact z
    have e2 : B * 2 ^ Q = A * 2 ^ Q + 2 ^ Q * (B - A) := by
      rw [Nat.mul_comm (2 ^ Q), ← Nat.add_mul]
      congr 1
      omega
    have : A * 2 ^ Q / (2 * N) + 1 ≤ B * 2 ^ Q / (2 * N) := by
      rw [← Nat.add_div_right _ (by omega : 0 < 2 * N)]
      exact Nat.div_le_div_right (by omega)
    omega
  · exact k
/-- the loop of the power: the rest of it from P on -/
def pb2 (N A B : Nat) : Nat → Nat → Nat
  | 0, P => P
  | k + 1, P => if lv N P A = lv N P B then pb2 N A B k (P + 1) else P
theorem pb2_is {N A B : Nat} (hA : A < 2 * N) (hB : B < 2 * N) : ∀ (k P : Nat), 1 ≤ P → (∀ q, q < P → lv N q A = lv N q B) → (lv N (P + k) A ≠ lv N (P + k) B) → IsPow N A B (pb2 N A B k P)
  | 0, P, hP, h, hne => ⟨hP, hne, h⟩
  | k + 1, P, hP, h, hne => by
    unfold pb2
    split
    · rename_i e
      refine pb2_is hA hB k (P + 1) (by omega) (fun q hq => ?_) (by rw [show P + 1 + k = P + (k + 1) by omega]; exact hne)
      by_cases z : q = P
      · subst z; exact e
      · exact h q (by omega)
    · rename_i e
      exact ⟨hP, e, h⟩
/-- the power of the border of two runs, the first from s -/
def pbw (s one other N : Nat) : Nat := pb2 N (2 * s + one) (2 * s + 2 * one + other) (2 * N) 1
theorem pow_ge (n : Nat) : n ≤ 2 ^ n := by
  induction n with
  | zero => exact Nat.zero_le _
  | succ n ih => rw [Nat.pow_succ]; have : 1 ≤ 2 ^ n := Nat.one_le_two_pow; omega
theorem pbw_is {s one other N : Nat} (h1 : 1 ≤ one) (h2 : 1 ≤ other) (hN : s + one + other ≤ N) : IsPow N (2 * s + one) (2 * s + 2 * one + other) (pbw s one other N) := by
  refine pb2_is (by omega) (by omega) _ 1 (Nat.le_refl _) (fun q hq => ?_) ?_
  · have : q = 0 := by omega
    subst this
    rw [lv_zero (by omega), lv_zero (by omega)]
  · intro e
    unfold lv at e
    have e2 : (2 * s + 2 * one + other) * 2 ^ (1 + 2 * N) = (2 * s + one) * 2 ^ (1 + 2 * N) + (one + other) * 2 ^ (1 + 2 * N) := by rw [← Nat.add_mul]; congr 1; omega
    have e3 : 2 * N ≤ 2 ^ (1 + 2 * N) := Nat.le_trans (by omega) (pow_ge (1 + 2 * N))
    have e4 : 1 * 2 ^ (1 + 2 * N) ≤ (one + other) * 2 ^ (1 + 2 * N) := Nat.mul_le_mul_right _ (by omega)
    have : (2 * s + one) * 2 ^ (1 + 2 * N) / (2 * N) + 1 ≤ (2 * s + 2 * one + other) * 2 ^ (1 + 2 * N) / (2 * N) := by
      rw [← Nat.add_div_right _ (by omega : 0 < 2 * N)]
      exact Nat.div_le_div_right (by omega)
    omega

/-! ### the pile -/
structure Ent where
  start : Nat
  line : List Nat
  power : Nat
/-- poured as long as the topmost power is greater -/
def cl (r : Nat → Nat) (m : Bool) (pw : Nat) : List Ent → List Ent × Nat
  | e1 :: e2 :: es => if pw < e1.power then ((cl r m pw (⟨e2.start, (pr r m e2.line e1.line).1, e2.power⟩ :: es)).1, (cl r m pw (⟨e2.start, (pr r m e2.line e1.line).1, e2.power⟩ :: es)).2 + (pr r m e2.line e1.line).2) else (e1 :: e2 :: es, 0)
  | [e] => ([e], 0)
  | [] => ([], 0)
termination_by l => l.length
/-- poured to one -/
def fin (r : Nat → Nat) (m : Bool) : List Ent → List Nat × Nat
  | e1 :: e2 :: es => ((fin r m (⟨e2.start, (pr r m e2.line e1.line).1, e2.power⟩ :: es)).1, (fin r m (⟨e2.start, (pr r m e2.line e1.line).1, e2.power⟩ :: es)).2 + (pr r m e2.line e1.line).2)
  | [e] => (e.line, 0)
  | [] => ([], 0)
termination_by l => l.length
theorem cl_yes {r : Nat → Nat} {m : Bool} {pw : Nat} {e1 e2 : Ent} {es : List Ent} (h : pw < e1.power) : cl r m pw (e1 :: e2 :: es) =
    ((cl r m pw (⟨e2.start, (pr r m e2.line e1.line).1, e2.power⟩ :: es)).1, (cl r m pw (⟨e2.start, (pr r m e2.line e1.line).1, e2.power⟩ :: es)).2 + (pr r m e2.line e1.line).2) := by
  conv => lhs; rw [cl, if_pos h]
theorem cl_no {r : Nat → Nat} {m : Bool} {pw : Nat} {e1 e2 : Ent} {es : List Ent} (h : ¬ pw < e1.power) : cl r m pw (e1 :: e2 :: es) = (e1 :: e2 :: es, 0) := by
  rw [cl, if_neg h]
theorem cl_one {r : Nat → Nat} {m : Bool} {pw : Nat} {e : Ent} : cl r m pw [e] = ([e], 0) := by rw [cl]
theorem cl_nil {r : Nat → Nat} {m : Bool} {pw : Nat} : cl r m pw [] = ([], 0) := by rw [cl]
theorem fin_two {r : Nat → Nat} {m : Bool} {e1 e2 : Ent} {es : List Ent} : fin r m (e1 :: e2 :: es) =
    ((fin r m (⟨e2.start, (pr r m e2.line e1.line).1, e2.power⟩ :: es)).1, (fin r m (⟨e2.start, (pr r m e2.line e1.line).1, e2.power⟩ :: es)).2 + (pr r m e2.line e1.line).2) := by
  conv => lhs; rw [fin]
theorem fin_one {r : Nat → Nat} {m : Bool} {e : Ent} : fin r m [e] = (e.line, 0) := by rw [fin]
theorem fin_nil {r : Nat → Nat} {m : Bool} : fin r m [] = ([], 0) := by rw [fin]
def topPow (N : Nat) (es : List Ent) (n : Nat) : Nat := match es with
  | [] => 0
  | e :: _ => pbw e.start e.line.length n N
/-- the whole, from a place on -/
def om (r : Nat → Nat) (N fill : Nat) (m : Bool) (k place : Nat) (es : List Ent) : List Nat × Nat := match k with
  | 0 => fin r m es
  | k + 1 => if place < N then
      ((om r N fill m k (place + (filledAt r N fill place).1.length) (⟨place, (filledAt r N fill place).1, topPow N es (filledAt r N fill place).1.length⟩ :: (cl r m (topPow N es (filledAt r N fill place).1.length) es).1)).1,
       (om r N fill m k (place + (filledAt r N fill place).1.length) (⟨place, (filledAt r N fill place).1, topPow N es (filledAt r N fill place).1.length⟩ :: (cl r m (topPow N es (filledAt r N fill place).1.length) es).1)).2 +
         (cl r m (topPow N es (filledAt r N fill place).1.length) es).2 + (filledAt r N fill place).2)
    else fin r m es
def ordF (r : Nat → Nat) (N fill : Nat) (m : Bool) : List Nat × Nat := om r N fill m N 0 []

/-! #### what lies on it -/
def PileC (r : Nat → Nat) : List Ent → Nat → Prop
  | [], p => p = 0
  | e :: es, p => e.start + e.line.length = p ∧ 1 ≤ e.line.length ∧ e.line.Pairwise (ah r) ∧ e.line.Perm (List.range' e.start e.line.length) ∧ PileC r es e.start
theorem PileC.mem {r : Nat → Nat} {e : Ent} {es : List Ent} {p : Nat} (h : PileC r (e :: es) p) {x : Nat} (hx : x ∈ e.line) : e.start ≤ x ∧ x < p := by
  have := List.mem_range'_1.mp (h.2.2.2.1.subset hx)
  have := h.1
  omega
theorem PileC.pour {r : Nat → Nat} (m : Bool) {e1 e2 : Ent} {es : List Ent} {p : Nat} (h : PileC r (e1 :: e2 :: es) p) : PileC r (⟨e2.start, (pr r m e2.line e1.line).1, e2.power⟩ :: es) p := by
  obtain ⟨a1, a2, a3, a4, b1, b2, b3, b4, c⟩ := h
  have hl := pr_length r m e2.line e1.line
  refine ⟨by dsimp only; omega, by dsimp only; omega, ?_, ?_, c⟩
  · refine pr_pw m b3 a3 fun x hx y hy => ?_
    have := List.mem_range'_1.mp (b4.subset hx)
    have := List.mem_range'_1.mp (a4.subset hy)
    omega
  · dsimp only
    refine (pr_perm r m e2.line e1.line).trans ?_
    rw [hl, ← List.range'_append_1, b1]
    exact List.Perm.append b4 a4
theorem fin_arr {r : Nat → Nat} (m : Bool) : ∀ (k : Nat) (es : List Ent) (p : Nat), es.length = k → PileC r es p → (fin r m es).1 = arr r p := by
  intro k
  induction k with
  | zero =>
    intro es p hk h
    cases es with
    | nil =>
      have : p = 0 := h
      subst this
      rw [fin_nil]; rfl
    | cons a b => simp at hk
  | succ k ih =>
    intro es p hk h
    match es, hk, h with
    | [e], hk, h =>
      obtain ⟨a1, a2, a3, a4, b⟩ := h
      have hs : e.start = 0 := b
      rw [fin_one]
      refine arr_of ?_ a3
      rw [List.range_eq_range', ← a1, hs, Nat.zero_add]
      rw [hs] at a4
      exact a4
    | e1 :: e2 :: es, hk, h =>
      rw [fin_two]
      exact ih _ p (by simp only [List.length_cons] at hk ⊢; omega) (h.pour m)
theorem cl_C {r : Nat → Nat} (m : Bool) (pw : Nat) : ∀ (k : Nat) (es : List Ent) (p : Nat), es.length = k → PileC r es p → PileC r (cl r m pw es).1 p := by
  intro k
  induction k with
  | zero =>
    intro es p hk h
    cases es with
    | nil => rw [cl_nil]; exact h
    | cons a b => simp at hk
  | succ k ih =>
    intro es p hk h
    match es, hk, h with
    | [e], hk, h => rw [cl_one]; exact h
    | e1 :: e2 :: es, hk, h =>
      by_cases q : pw < e1.power
      · rw [cl_yes q]
        exact ih _ p (by simp only [List.length_cons] at hk ⊢; omega) (h.pour m)
      · rw [cl_no q]; exact h
theorem om_arr {r : Nat → Nat} (N fill : Nat) (m : Bool) : ∀ (k place : Nat) (es : List Ent), N - place ≤ k → place ≤ N → PileC r es place → (om r N fill m k place es).1 = arr r N := by
  intro k
  induction k with
  | zero =>
    intro place es hk hp h
    have : place = N := by omega
    subst this
    exact fin_arr m _ es _ rfl h
  | succ k ih =>
    intro place es hk hp h
    unfold om
    by_cases q : place < N
    · rw [if_pos q]
      obtain ⟨h1, h2, h3, h4, h5, h6, h7⟩ := filledAt_all (r := r) fill q
      exact ih _ _ (by omega) h2 ⟨rfl, h1, h4, h3, cl_C m _ _ es place rfl h⟩
    · rw [if_neg q]
      have : place = N := by omega
      subst this
      exact fin_arr m _ es _ rfl h
theorem ordF_arr (r : Nat → Nat) (N fill : Nat) (m : Bool) : (ordF r N fill m).1 = arr r N := om_arr N fill m N 0 [] (by omega) (Nat.zero_le _) rfl

/-! #### what it costs -/
/-- of a line on the pile: its first and its last run's middle, a level at which all its middles agree, what was spent on it -/
structure Gh where
  mf : Nat
  ml : Nat
  d : Nat
  c : Nat
def PileG (N P : Nat) : List Ent → List Gh → Prop
  | [], [] => True
  | [e], [g] => (g.mf ≤ g.ml ∧ g.ml < 2 * N ∧ lv N g.d g.mf = lv N g.d g.ml ∧ g.d ≤ P ∧ g.c ≤ e.line.length * (P - g.d)) ∧ e.power = 0
  | e :: e' :: es, g :: g' :: gs => (g.mf ≤ g.ml ∧ g.ml < 2 * N ∧ lv N g.d g.mf = lv N g.d g.ml ∧ g.d ≤ P ∧ g.c ≤ e.line.length * (P - g.d)) ∧
      (g'.ml ≤ g.mf ∧ IsPow N g'.ml g.mf e.power ∧ e.power ≤ g.d ∧ e.power ≤ g'.d ∧ e'.power < e.power) ∧ PileG N P (e' :: es) (g' :: gs)
  | _, _ => False
def costs (gs : List Gh) : Nat := (gs.map (·.c)).sum
theorem PileG.pour {N P : Nat} (hN : 0 < N) {r : Nat → Nat} (m : Bool) {e1 e2 : Ent} {es : List Ent} {g1 g2 : Gh} {gs : List Gh} (h : PileG N P (e1 :: e2 :: es) (g1 :: g2 :: gs)) :
    PileG N P (⟨e2.start, (pr r m e2.line e1.line).1, e2.power⟩ :: es) (⟨g2.mf, g1.ml, e1.power - 1, g2.c + g1.c + (e2.line.length + e1.line.length)⟩ :: gs) := by
  obtain ⟨⟨a1, a2, a3, a4, a5⟩, ⟨b1, b2, b3, b4, b5⟩, hr⟩ := h
  have hq := b2.pos
  have hl := pr_length r m e2.line e1.line
  have common : ∀ (x : g2.mf ≤ g2.ml ∧ g2.ml < 2 * N ∧ lv N g2.d g2.mf = lv N g2.d g2.ml ∧ g2.d ≤ P ∧ g2.c ≤ e2.line.length * (P - g2.d)),
      g2.mf ≤ g1.ml ∧ g1.ml < 2 * N ∧ lv N (e1.power - 1) g2.mf = lv N (e1.power - 1) g1.ml ∧ e1.power - 1 ≤ P ∧ g2.c + g1.c + (e2.line.length + e1.line.length) ≤ (pr r m e2.line e1.line).1.length * (P - (e1.power - 1)) := by
    rintro ⟨c1, c2, c3, c4, c5⟩
    refine ⟨by omega, a2, ?_, by omega, ?_⟩
    · rw [lv_down hN (by omega : e1.power - 1 ≤ g2.d) c3, b2.eq (e1.power - 1) (by omega), lv_down hN (by omega : e1.power - 1 ≤ g1.d) a3]
    · rw [hl]
      have e0 : P - (e1.power - 1) = (P - e1.power) + 1 := by omega
      have z1 : e2.line.length * (P - g2.d) ≤ e2.line.length * (P - e1.power) := Nat.mul_le_mul_left _ (by omega)
      have z2 : e1.line.length * (P - g1.d) ≤ e1.line.length * (P - e1.power) := Nat.mul_le_mul_left _ (by omega)
      rw [e0, Nat.mul_add, Nat.mul_one, Nat.add_mul]
      omega
  match es, gs, hr with
  | [], [], hr => exact ⟨common hr.1, hr.2⟩
  | e3 :: es, g3 :: gs, hr =>
    obtain ⟨c, ⟨d1, d2, d3, d4, d5⟩, f⟩ := hr
    exact ⟨common c, ⟨d1, d2, by dsimp only; omega, d4, d5⟩, f⟩
theorem costs_pour (g1 g2 : Gh) (gs : List Gh) (n a b c : Nat) : costs (⟨a, b, c, g2.c + g1.c + n⟩ :: gs) = costs (g1 :: g2 :: gs) + n := by
  unfold costs
  simp only [List.map_cons, List.sum_cons]
  omega
/-- the asks of all pourings so far stand below W times the costs -/
theorem fin_cost {N P : Nat} (hN : 0 < N) {r : Nat → Nat} (m : Bool) : ∀ (k : Nat) (es : List Ent) (gs : List Gh), es.length = k → PileG N P es gs → PileC r es N →
    wt m * costs gs + (fin r m es).2 ≤ wt m * (N * P) := by
  intro k
  induction k with
  | zero =>
    intro es gs hk h hc
    cases es with
    | nil =>
      have : N = 0 := hc
      omega
    | cons a b => simp at hk
  | succ k ih =>
    intro es gs hk h hc
    match es, gs, hk, h, hc with
    | [e], [g], hk, h, hc =>
      obtain ⟨⟨a1, a2, a3, a4, a5⟩, _⟩ := h
      rw [fin_one]
      have hs : e.start = 0 := hc.2.2.2.2
      have hl := hc.1
      have : e.line.length = N := by omega
      rw [this] at a5
      show wt m * (g.c + 0) + 0 ≤ _
      rw [Nat.add_zero, Nat.add_zero]
      exact Nat.mul_le_mul_left _ (Nat.le_trans a5 (Nat.mul_le_mul_left _ (by omega)))
    | e1 :: e2 :: es, g1 :: g2 :: gs, hk, h, hc =>
      rw [fin_two]
      have := ih _ _ (by simp only [List.length_cons] at hk ⊢; omega) (h.pour hN m (r := r)) (hc.pour m)
      rw [costs_pour, Nat.mul_add] at this
      have h2 := pr_asks r m e2.line e1.line
      dsimp only
      omega
/-- the pouring ahead of a new run of the power pw, its middle mid -/
theorem cl_cost {N P pw mid : Nat} (hN : 0 < N) {r : Nat → Nat} (m : Bool) : ∀ (k : Nat) (es : List Ent) (gs : List Gh) (e : Ent) (g : Gh), es.length = k → PileG N P (e :: es) (g :: gs) →
    pw ≤ g.d → IsPow N g.ml mid pw → g.ml ≤ mid → ∃ (e' : Ent) (es' : List Ent) (g' : Gh) (gs' : List Gh), (cl r m pw (e :: es)).1 = e' :: es' ∧ PileG N P (e' :: es') (g' :: gs') ∧ pw ≤ g'.d ∧ g'.ml = g.ml ∧ e'.power < pw ∧
      wt m * costs (g :: gs) + (cl r m pw (e :: es)).2 ≤ wt m * costs (g' :: gs') := by
  intro k
  induction k with
  | zero =>
    intro es gs e g hk h hd hp hm
    cases es with
    | cons a b => simp at hk
    | nil =>
      rw [cl_one]
      match gs, h with
      | [], h => exact ⟨e, [], g, [], rfl, h, hd, rfl, by rw [h.2]; exact hp.pos, Nat.le_refl _⟩
  | succ k ih =>
    intro es gs e g hk h hd hp hm
    match es, gs, hk, h with
    | e2 :: es, g2 :: gs, hk, h =>
      by_cases q : pw < e.power
      · rw [cl_yes q]
        obtain ⟨e', es', g', gs', h1, h2, h3, h4, h5, h6⟩ := ih es gs _ _ (by simp only [List.length_cons] at hk; omega) (h.pour hN m (r := r)) (by dsimp only; omega) hp hm
        refine ⟨e', es', g', gs', h1, h2, h3, h4, h5, ?_⟩
        rw [costs_pour, Nat.mul_add] at h6
        have := pr_asks r m e2.line e.line
        dsimp only
        omega
      · rw [cl_no q]
        refine ⟨e, e2 :: es, g, g2 :: gs, rfl, h, hd, rfl, ?_, Nat.le_refl _⟩
        obtain ⟨⟨a1, a2, a3, a4, a5⟩, ⟨b1, b2, b3, b4, b5⟩, hr⟩ := h
        rcases Nat.lt_or_ge e.power pw with z | z
        · exact z
        · have z : e.power = pw := by omega
          exfalso
          have o1 := (b2.odd hN b1).2
          have o2 := (hp.odd hN hm).1
          rw [z] at o1
          rw [lv_down hN hd a3] at o1
          omega
theorem om_cost {N P fill : Nat} (hN : 0 < N) (hP : ∀ L M, fill ≤ L → 1 ≤ M → L + M ≤ N → 1 ≤ P ∧ 2 * N ≤ 2 ^ P * (L + M)) {r : Nat → Nat} (m : Bool) : ∀ (k place : Nat) (es : List Ent) (gs : List Gh), N - place ≤ k → place ≤ N → PileC r es place → PileG N P es gs →
    (∀ e es' g gs', es = e :: es' → gs = g :: gs' → g.d = P ∧ g.ml = 2 * e.start + e.line.length ∧ (fill ≤ e.line.length ∨ place = N)) →
    wt m * costs gs + (om r N fill m k place es).2 ≤ wt m * (N * P) + (if place = N then 0 else (N - 1 - place) * (1 + twos fill)) := by
  intro k
  induction k with
  | zero =>
    intro place es gs hk hp hc hg htop
    have : place = N := by omega
    subst this
    rw [if_pos rfl]
    exact fin_cost hN m _ es gs rfl hg hc
  | succ k ih =>
    intro place es gs hk hp hc hg htop
    unfold om
    by_cases q : place < N
    · rw [if_pos q, if_neg (by omega)]
      obtain ⟨h1, h2, h3, h4, h5, h6, h7⟩ := filledAt_all (r := r) fill q
      generalize hz : filledAt r N fill place = z at *
      have hcc := cl_C m (topPow N es z.1.length) _ es place rfl hc
      have asks : ∀ gs2 : List Gh, PileG N P (⟨place, z.1, topPow N es z.1.length⟩ :: (cl r m (topPow N es z.1.length) es).1) (⟨2 * place + z.1.length, 2 * place + z.1.length, P, 0⟩ :: gs2) →
          wt m * costs gs + (cl r m (topPow N es z.1.length) es).2 ≤ wt m * costs gs2 →
          wt m * costs gs + ((om r N fill m k (place + z.1.length) (⟨place, z.1, topPow N es z.1.length⟩ :: (cl r m (topPow N es z.1.length) es).1)).2 + (cl r m (topPow N es z.1.length) es).2 + z.2) ≤ wt m * (N * P) + (N - 1 - place) * (1 + twos fill) := by
        intro gs2 hG hle
        have := ih (place + z.1.length) (⟨place, z.1, topPow N es z.1.length⟩ :: (cl r m (topPow N es z.1.length) es).1) (⟨2 * place + z.1.length, 2 * place + z.1.length, P, 0⟩ :: gs2) (by omega) h2 ⟨rfl, h1, h4, h3, hcc⟩ hG (fun e es' g gs' ee eg => by
          injection ee with ee1 ee2
          injection eg with eg1 eg2
          subst ee1 eg1
          exact ⟨rfl, rfl, h5⟩)
        have ec : costs (⟨2 * place + z.1.length, 2 * place + z.1.length, P, 0⟩ :: gs2) = costs gs2 := by unfold costs; simp
        rw [ec] at this
        by_cases e : place + z.1.length = N
        · rw [if_pos e] at this
          have h8 := h7 e
          have e2 : N - 1 - place = z.1.length - 1 := by omega
          rw [e2]
          omega
        · rw [if_neg e] at this
          have e2 : N - 1 - place = (N - 1 - (place + z.1.length)) + z.1.length := by omega
          rw [e2, Nat.add_mul]
          omega
      match es, gs, hg, hc, htop, asks with
      | [], [], hg, hc, htop, asks =>
        refine asks [] ?_ ?_
        · rw [cl_nil]
          exact ⟨⟨Nat.le_refl _, by dsimp only; omega, rfl, Nat.le_refl _, Nat.zero_le _⟩, rfl⟩
        · rw [cl_nil]; exact Nat.le_refl _
      | [e], [], hg, hc, htop, asks => exact False.elim hg
      | e :: e' :: es, [], hg, hc, htop, asks => exact False.elim hg
      | e :: es, g :: gs, hg, hc, htop, asks =>
        obtain ⟨t1, t2, t3⟩ := htop e es g gs rfl rfl
        have t3' : fill ≤ e.line.length := by
          rcases t3 with t | t
          · exact t
          · omega
        have c1 := hc.1
        have c2 := hc.2.1
        have hpw := pbw_is (s := e.start) (one := e.line.length) (other := z.1.length) (N := N) c2 h1 (by omega)
        have epw : topPow N (e :: es) z.1.length = pbw e.start e.line.length z.1.length N := rfl
        have emid : 2 * e.start + 2 * e.line.length + z.1.length = 2 * place + z.1.length := by omega
        rw [emid, ← epw, ← t2] at hpw
        obtain ⟨p1, p2⟩ := hP e.line.length z.1.length t3' h1 (by omega)
        have hle : topPow N (e :: es) z.1.length ≤ P := hpw.le hN p1 (by
          have : 2 * place + z.1.length - g.ml = e.line.length + z.1.length := by omega
          rw [this]; exact p2)
        obtain ⟨e', es', g', gs', a1, a2, a3, a4, a5, a6⟩ := cl_cost hN m _ es gs e g rfl hg (by omega) hpw (by omega)
        refine asks (g' :: gs') ?_ a6
        rw [a1]
        exact ⟨⟨Nat.le_refl _, by dsimp only; omega, rfl, Nat.le_refl _, Nat.zero_le _⟩, ⟨by dsimp only; omega, by rw [a4]; exact hpw, hle, a3, a5⟩, a2⟩
    · rw [if_neg q, if_pos (by omega)]
      have : place = N := by omega
      subst this
      exact fin_cost hN m _ es gs rfl hg hc
theorem ordF_asks (r : Nat → Nat) (N fill : Nat) (m : Bool) (hN : 0 < N) (hf : 1 ≤ fill) : (ordF r N fill m).2 ≤ (N - 1) * (1 + twos fill) + wt m * N * twos ((2 * N + fill) / (fill + 1)) := by
  have hU : 2 * N ≤ 2 ^ twos ((2 * N + fill) / (fill + 1)) * (fill + 1) := by
    have h1 := twos_pow ((2 * N + fill) / (fill + 1))
    have h2 : (2 * N + fill) / (fill + 1) * (fill + 1) ≤ 2 ^ twos ((2 * N + fill) / (fill + 1)) * (fill + 1) := Nat.mul_le_mul_right _ h1
    have h3 := Nat.div_add_mod (2 * N + fill) (fill + 1)
    have h4 := Nat.mod_lt (2 * N + fill) (by omega : fill + 1 > 0)
    rw [Nat.mul_comm] at h3
    omega
  have := om_cost (P := twos ((2 * N + fill) / (fill + 1))) (fill := fill) hN (fun L M hL hM hLM => by
    refine ⟨twos_pos ?_, Nat.le_trans hU (Nat.mul_le_mul_left _ (by omega))⟩
    have h3 : 2 * (fill + 1) ≤ 2 * N + fill := by omega
    have := (Nat.le_div_iff_mul_le (by omega : 0 < fill + 1)).mpr h3
    omega) (r := r) m N 0 [] [] (by omega) (Nat.zero_le _) rfl trivial (fun e es' g gs' ee => by cases ee)
  rw [if_neg (by omega)] at this
  unfold ordF
  have e0 : wt m * costs [] = 0 := Nat.mul_zero _
  rw [e0] at this
  rw [Nat.mul_assoc]
  simp only [Nat.sub_zero, Nat.zero_add] at this
  omega
theorem ordF_zero (r : Nat → Nat) (fill : Nat) (m : Bool) : ordF r 0 fill m = ([], 0) := by
  show fin r m [] = _
  rw [fin_nil]
end NM

/-! The tree of meetings. -/
namespace NM

/-- x goes ahead of y: forwards as arrangements have them, backwards the other way -/
def bt (r : Nat → Nat) (bw : Bool) (x y : Nat) : Prop := if bw = true then ah r y x else ah r x y
theorem bt_trans {r : Nat → Nat} {bw : Bool} {x y z : Nat} (h1 : bt r bw x y) (h2 : bt r bw y z) : bt r bw x z := by
  unfold bt at *
  cases bw
  · exact ah_trans h1 h2
  · exact ah_trans h2 h1
theorem bt_asymm {r : Nat → Nat} {bw : Bool} {x y : Nat} (h1 : bt r bw x y) : ¬ bt r bw y x := by
  unfold bt at *
  cases bw
  · exact ah_asymm h1
  · exact ah_asymm h1
/-- the ask of a meeting, the lesser number first -/
theorem bt_ask {r : Nat → Nat} {bw : Bool} {x y : Nat} (h : x < y) : ((decide (r y < r x) != bw) = true → bt r bw y x) ∧ ((decide (r y < r x) != bw) = false → bt r bw x y) := by
  unfold bt ah
  cases bw <;> by_cases q : r y < r x <;> simp [q] <;> omega

/-- the first number that is left of a line -/
def fr (ls : List (List Nat)) (gone : List Nat) (i : Nat) : Nat := (ls.getD i []).getD (gone.getD i 0) 0
def met (r : Nat → Nat) (bw : Bool) (ls : List (List Nat)) (gone : List Nat) : Option Nat → Option Nat → Option Nat
  | none, o => o
  | some i, none => some i
  | some i, some j => if (decide (r (fr ls gone j) < r (fr ls gone i)) != bw) = true then some j else some i
def metAsk : Option Nat → Option Nat → Nat
  | some _, some _ => 1
  | _, _ => 0
theorem metAsk_le (a b : Option Nat) : metAsk a b ≤ 1 := by
  unfold metAsk
  split <;> omega
def leaf (ls : List (List Nat)) (gone : List Nat) (s : Nat) : Option Nat := if gone.getD s 0 = (ls.getD s []).length then none else some s
/-- which line goes first of those from s to e -/
def win (r : Nat → Nat) (bw : Bool) (ls : List (List Nat)) (gone : List Nat) (s e : Nat) : Option Nat :=
  if e - s ≤ 1 then leaf ls gone s
  else met r bw ls gone (win r bw ls gone s ((s + e) / 2)) (win r bw ls gone ((s + e) / 2) e)
termination_by e - s
decreasing_by all_goals omega
theorem win_one {r : Nat → Nat} {bw : Bool} {ls : List (List Nat)} {gone : List Nat} {s e : Nat} (h : e - s ≤ 1) : win r bw ls gone s e = leaf ls gone s := by rw [win, if_pos h]
theorem win_two {r : Nat → Nat} {bw : Bool} {ls : List (List Nat)} {gone : List Nat} {s e : Nat} (h : ¬ e - s ≤ 1) :
    win r bw ls gone s e = met r bw ls gone (win r bw ls gone s ((s + e) / 2)) (win r bw ls gone ((s + e) / 2) e) := by
  conv => lhs; rw [win, if_neg h]
/-- how many asks holding a stretch's meetings anew takes -/
def hc (r : Nat → Nat) (bw : Bool) (ls : List (List Nat)) (gone : List Nat) (at_ : Option Nat) (s e : Nat) : Nat :=
  if e - s ≤ 1 then 0
  else (if at_.all (fun a => decide (a < (s + e) / 2)) = true then hc r bw ls gone at_ s ((s + e) / 2) else 0) + (if at_.all (fun a => decide ((s + e) / 2 ≤ a)) = true then hc r bw ls gone at_ ((s + e) / 2) e else 0) +
    metAsk (win r bw ls gone s ((s + e) / 2)) (win r bw ls gone ((s + e) / 2) e)
termination_by e - s
decreasing_by all_goals omega
theorem hc_one {r : Nat → Nat} {bw : Bool} {ls : List (List Nat)} {gone : List Nat} {at_ : Option Nat} {s e : Nat} (h : e - s ≤ 1) : hc r bw ls gone at_ s e = 0 := by rw [hc, if_pos h]
theorem hc_two {r : Nat → Nat} {bw : Bool} {ls : List (List Nat)} {gone : List Nat} {at_ : Option Nat} {s e : Nat} (h : ¬ e - s ≤ 1) : hc r bw ls gone at_ s e =
    (if at_.all (fun a => decide (a < (s + e) / 2)) = true then hc r bw ls gone at_ s ((s + e) / 2) else 0) + (if at_.all (fun a => decide ((s + e) / 2 ≤ a)) = true then hc r bw ls gone at_ ((s + e) / 2) e else 0) +
    metAsk (win r bw ls gone s ((s + e) / 2)) (win r bw ls gone ((s + e) / 2) e) := by
  conv => lhs; rw [hc, if_neg h]
theorem hc_all (r : Nat → Nat) (bw : Bool) (ls : List (List Nat)) (gone : List Nat) : ∀ (k s e : Nat), e - s = k → s < e → hc r bw ls gone none s e + 1 ≤ e - s := by
  intro k
  induction k using Nat.strongRecOn with
  | ind k ih =>
    intro s e hk h
    by_cases q : e - s ≤ 1
    · rw [hc_one q]; omega
    · rw [hc_two q]
      have h1 := ih ((s + e) / 2 - s) (by omega) s ((s + e) / 2) rfl (by omega)
      have h2 := ih (e - (s + e) / 2) (by omega) ((s + e) / 2) e rfl (by omega)
      have := metAsk_le (win r bw ls gone s ((s + e) / 2)) (win r bw ls gone ((s + e) / 2) e)
      simp only [Option.all_none, if_true]
      omega
theorem half_size {s e : Nat} (h : ¬ e - s ≤ 1) : twos ((s + e) / 2 - s) + 1 ≤ twos (e - s) ∧ twos (e - (s + e) / 2) + 1 ≤ twos (e - s) := by
  have h1 := twos_lt_half (n := e - s) (by omega)
  have e1 : (s + e) / 2 - s = (e - s) / 2 := by omega
  have e2 : e - (s + e) / 2 = (e - s) - (e - s) / 2 := by omega
  rw [e1, e2]; exact h1
theorem hc_way (r : Nat → Nat) (bw : Bool) (ls : List (List Nat)) (gone : List Nat) (a : Nat) : ∀ (k s e : Nat), e - s = k → s ≤ a → a < e → hc r bw ls gone (some a) s e ≤ twos (e - s) := by
  intro k
  induction k using Nat.strongRecOn with
  | ind k ih =>
    intro s e hk h1 h2
    by_cases q : e - s ≤ 1
    · rw [hc_one q]; exact Nat.zero_le _
    · rw [hc_two q]
      have hm := metAsk_le (win r bw ls gone s ((s + e) / 2)) (win r bw ls gone ((s + e) / 2) e)
      have hh := half_size q
      by_cases z : a < (s + e) / 2
      · have := ih ((s + e) / 2 - s) (by omega) s ((s + e) / 2) rfl h1 z
        simp only [Option.all_some, decide_eq_true_eq]
        rw [if_pos z, if_neg (by omega)]
        omega
      · have := ih (e - (s + e) / 2) (by omega) ((s + e) / 2) e rfl (by omega) h2
        simp only [Option.all_some, decide_eq_true_eq]
        rw [if_neg z, if_pos (by omega)]
        omega
/-- a line at its end is met without an ask -/
theorem hc_end (r : Nat → Nat) (bw : Bool) (ls : List (List Nat)) (gone : List Nat) (a : Nat) (ha : leaf ls gone a = none) : ∀ (k s e : Nat), e - s = k → s ≤ a → a < e → hc r bw ls gone (some a) s e + 1 ≤ twos (e - s) ∨ (e - s = 1 ∧ hc r bw ls gone (some a) s e = 0) := by
  intro k
  induction k using Nat.strongRecOn with
  | ind k ih =>
    intro s e hk h1 h2
    by_cases q : e - s ≤ 1
    · rw [hc_one q]; exact .inr ⟨by omega, rfl⟩
    · refine .inl ?_
      rw [hc_two q]
      have hm := metAsk_le (win r bw ls gone s ((s + e) / 2)) (win r bw ls gone ((s + e) / 2) e)
      have hh := half_size q
      by_cases z : a < (s + e) / 2
      · have := ih ((s + e) / 2 - s) (by omega) s ((s + e) / 2) rfl h1 z
        simp only [Option.all_some, decide_eq_true_eq]
        rw [if_pos z, if_neg (by omega)]
        rcases this with t | ⟨t1, t2⟩
        · omega
        · have e0 : win r bw ls gone s ((s + e) / 2) = none := by rw [win_one (by omega), show s = a by omega]; exact ha
          rw [e0, t2]
          show 0 + 0 + 0 + 1 ≤ _
          omega
      · have := ih (e - (s + e) / 2) (by omega) ((s + e) / 2) e rfl (by omega) h2
        simp only [Option.all_some, decide_eq_true_eq]
        rw [if_neg z, if_pos (by omega)]
        rcases this with t | ⟨t1, t2⟩
        · omega
        · have e0 : win r bw ls gone ((s + e) / 2) e = none := by rw [win_one (by omega), show (s + e) / 2 = a by omega]; exact ha
          rw [e0, t2]
          have : metAsk (win r bw ls gone s ((s + e) / 2)) none = 0 := by cases win r bw ls gone s ((s + e) / 2) <;> rfl
          rw [this]
          omega
/-- a stretch's winner hangs on its own lines alone -/
theorem win_congr {r : Nat → Nat} {bw : Bool} {ls : List (List Nat)} {gone gone' : List Nat} : ∀ (k s e : Nat), e - s = k → s < e → (∀ i, s ≤ i → i < e → gone.getD i 0 = gone'.getD i 0) → win r bw ls gone s e = win r bw ls gone' s e ∧ ∀ i, win r bw ls gone s e = some i → s ≤ i ∧ i < e := by
  intro k
  induction k using Nat.strongRecOn with
  | ind k ih =>
    intro s e hk hs h
    by_cases q : e - s ≤ 1
    · rw [win_one q, win_one q]
      refine ⟨by unfold leaf; rw [h s (by omega) (by omega)], fun i hi => ?_⟩
      unfold leaf at hi
      split at hi
      · cases hi
      · have := Option.some.inj hi; omega
    · obtain ⟨a1, a2⟩ := ih ((s + e) / 2 - s) (by omega) s ((s + e) / 2) rfl (by omega) fun i x y => h i x (by omega)
      obtain ⟨b1, b2⟩ := ih (e - (s + e) / 2) (by omega) ((s + e) / 2) e rfl (by omega) fun i x y => h i (by omega) y
      rw [win_two q, win_two q, ← a1, ← b1]
      cases ea : win r bw ls gone s ((s + e) / 2) with
      | none =>
        refine ⟨rfl, fun i hi => ?_⟩
        have := b2 i hi
        omega
      | some x =>
        have hx := a2 x ea
        cases eb : win r bw ls gone ((s + e) / 2) e with
        | none =>
          refine ⟨rfl, fun i hi => ?_⟩
          have := Option.some.inj hi
          omega
        | some y =>
          have hy := b2 y eb
          refine ⟨?_, fun i hi => ?_⟩
          · unfold met fr
            dsimp only
            rw [h x (by omega) (by omega), h y (by omega) (by omega)]
          · unfold met at hi
            dsimp only at hi
            split at hi
            · have := Option.some.inj hi; omega
            · have := Option.some.inj hi; omega
/-- the lines: each goes as bt has it, the numbers of an earlier one are less -/
structure LinesOk (r : Nat → Nat) (bw : Bool) (ls : List (List Nat)) : Prop where
  ri : ∀ i, i < ls.length → (ls.getD i []).Pairwise (bt r bw)
  lt : ∀ i j, i < j → j < ls.length → ∀ x ∈ ls.getD i [], ∀ y ∈ ls.getD j [], x < y
theorem fr_mem {ls : List (List Nat)} {gone : List Nat} {i : Nat} (h : gone.getD i 0 < (ls.getD i []).length) : fr ls gone i ∈ ls.getD i [] := getD_mem h
/-- the winner's number goes ahead of the others' first ones -/
theorem win_best {r : Nat → Nat} {bw : Bool} {ls : List (List Nat)} {gone : List Nat} (L : LinesOk r bw ls) (hg : ∀ i, i < ls.length → gone.getD i 0 ≤ (ls.getD i []).length) : ∀ (k s e : Nat), e - s = k → s < e → e ≤ ls.length →
    (win r bw ls gone s e = none → ∀ j, s ≤ j → j < e → gone.getD j 0 = (ls.getD j []).length) ∧
    (∀ i, win r bw ls gone s e = some i → s ≤ i ∧ i < e ∧ gone.getD i 0 < (ls.getD i []).length ∧ ∀ j, s ≤ j → j < e → gone.getD j 0 < (ls.getD j []).length → j = i ∨ bt r bw (fr ls gone i) (fr ls gone j)) := by
  intro k
  induction k using Nat.strongRecOn with
  | ind k ih =>
    intro s e hk hs he
    by_cases q : e - s ≤ 1
    · rw [win_one q]
      unfold leaf
      by_cases z : gone.getD s 0 = (ls.getD s []).length
      · rw [if_pos z]
        refine ⟨fun _ j a b => ?_, fun i hi => nomatch hi⟩
        rw [show j = s by omega]; exact z
      · rw [if_neg z]
        refine ⟨fun h => (nomatch h), fun i hi => ?_⟩
        have hi := Option.some.inj hi
        subst hi
        have := hg s (by omega)
        exact ⟨by omega, by omega, by omega, fun j a b _ => .inl (by omega)⟩
    · obtain ⟨a1, a2⟩ := ih ((s + e) / 2 - s) (by omega) s ((s + e) / 2) rfl (by omega) (by omega)
      obtain ⟨b1, b2⟩ := ih (e - (s + e) / 2) (by omega) ((s + e) / 2) e rfl (by omega) he
      rw [win_two q]
      cases ea : win r bw ls gone s ((s + e) / 2) with
      | none =>
        cases eb : win r bw ls gone ((s + e) / 2) e with
        | none =>
          refine ⟨fun _ j x y => ?_, fun i hi => nomatch hi⟩
          by_cases z : j < (s + e) / 2
          · exact a1 ea j x z
          · exact b1 eb j (by omega) y
        | some y =>
          refine ⟨fun h => (nomatch h), fun i hi => ?_⟩
          have hi := Option.some.inj hi
          subst hi
          obtain ⟨c1, c2, c3, c4⟩ := b2 y eb
          refine ⟨by omega, c2, c3, fun j x w z => ?_⟩
          by_cases t : j < (s + e) / 2
          · have := a1 ea j x t; omega
          · exact c4 j (by omega) w z
      | some x =>
        obtain ⟨d1, d2, d3, d4⟩ := a2 x ea
        cases eb : win r bw ls gone ((s + e) / 2) e with
        | none =>
          refine ⟨fun h => (nomatch h), fun i hi => ?_⟩
          have hi := Option.some.inj hi
          subst hi
          refine ⟨d1, by omega, d3, fun j u w z => ?_⟩
          by_cases t : j < (s + e) / 2
          · exact d4 j u t z
          · have := b1 eb j (by omega) w; omega
        | some y =>
          obtain ⟨c1, c2, c3, c4⟩ := b2 y eb
          have hxy := L.lt x y (by omega) (by omega) _ (fr_mem d3) _ (fr_mem c3)
          obtain ⟨k1, k2⟩ := bt_ask (r := r) (bw := bw) hxy
          unfold met
          dsimp only
          by_cases z : (decide (r (fr ls gone y) < r (fr ls gone x)) != bw) = true
          · rw [if_pos z]
            refine ⟨fun h => (nomatch h), fun i hi => ?_⟩
            have hi := Option.some.inj hi
            subst hi
            have kb := k1 z
            refine ⟨by omega, c2, c3, fun j u w v => ?_⟩
            by_cases t : j < (s + e) / 2
            · rcases d4 j u t v with m | m
              · subst m; exact .inr kb
              · exact .inr (bt_trans kb m)
            · exact c4 j (by omega) w v
          · rw [if_neg z]
            refine ⟨fun h => (nomatch h), fun i hi => ?_⟩
            have hi := Option.some.inj hi
            subst hi
            have kb := k2 (by simpa using z)
            refine ⟨d1, by omega, d3, fun j u w v => ?_⟩
            by_cases t : j < (s + e) / 2
            · exact d4 j u t v
            · rcases c4 j (by omega) w v with m | m
              · subst m; exact .inr kb
              · exact .inr (bt_trans kb m)

/-! ### what is left -/
def rem : List (List Nat) → List Nat → List Nat
  | l :: ls, g :: gs => l.drop g ++ rem ls gs
  | _, _ => []
theorem rem_mem : ∀ {ls : List (List Nat)} {gone : List Nat} {x : Nat}, ls.length = gone.length → (x ∈ rem ls gone ↔ ∃ i, i < ls.length ∧ x ∈ (ls.getD i []).drop (gone.getD i 0))
  | [], [], x, _ => ⟨fun h => (nomatch h), fun ⟨i, h, _⟩ => absurd h (Nat.not_lt_zero _)⟩
  | l :: ls, g :: gs, x, hl => by
    have ih := rem_mem (ls := ls) (gone := gs) (x := x) (by simpa using hl)
    unfold rem
    rw [List.mem_append, ih]
    constructor
    · rintro (h | ⟨i, h1, h2⟩)
      · exact ⟨0, by simp, by simpa using h⟩
      · exact ⟨i + 1, by simpa using h1, by simpa using h2⟩
    · rintro ⟨i, h1, h2⟩
      cases i with
      | zero => exact .inl (by simpa using h2)
      | succ i => exact .inr ⟨i, by simpa using h1, by simpa using h2⟩
theorem drop_get {l : List Nat} {g : Nat} (h : g < l.length) : l.drop g = l.getD g 0 :: l.drop (g + 1) := by
  rw [getD_get h]; exact List.drop_eq_getElem_cons h
theorem rem_send : ∀ {ls : List (List Nat)} {gone : List Nat} {i : Nat}, ls.length = gone.length → i < ls.length → gone.getD i 0 < (ls.getD i []).length →
    (rem ls gone).Perm (fr ls gone i :: rem ls (gone.set i (gone.getD i 0 + 1)))
  | l :: ls, g :: gs, 0, hl, hi, h => by
    have h : g < l.length := h
    unfold rem
    rw [drop_get h]
    exact List.Perm.refl _
  | l :: ls, g :: gs, i + 1, hl, hi, h => by
    have ih := rem_send (ls := ls) (gone := gs) (i := i) (by simpa using hl) (by simpa using hi) h
    show (l.drop g ++ rem ls gs).Perm (fr ls gs i :: (l.drop g ++ rem ls (gs.set i (gs.getD i 0 + 1))))
    exact (List.Perm.append_left _ ih).trans List.perm_middle
theorem gone_set {gone : List Nat} {i v j : Nat} (hi : i < gone.length) : (gone.set i v).getD j 0 = if i = j then v else gone.getD j 0 := by
  rw [List.getD_eq_getElem?_getD, List.getElem?_set]
  by_cases e : i = j
  · rw [if_pos e, if_pos e, if_pos (by omega)]; rfl
  · rw [if_neg e, if_neg e, ← List.getD_eq_getElem?_getD]
structure MOk (r : Nat → Nat) (bw : Bool) (ls : List (List Nat)) (gone : List Nat) (T : List Nat) : Prop where
  L : LinesOk r bw ls
  len : ls.length = gone.length
  le : ∀ i, i < ls.length → gone.getD i 0 ≤ (ls.getD i []).length
  perm : T.Perm (rem ls gone)
  pw : T.Pairwise (bt r bw)
theorem MOk.send {r : Nat → Nat} {bw : Bool} {ls : List (List Nat)} {gone : List Nat} {t : Nat} {T : List Nat} (h : MOk r bw ls gone (t :: T)) :
    ∃ i, win r bw ls gone 0 ls.length = some i ∧ i < ls.length ∧ gone.getD i 0 < (ls.getD i []).length ∧ fr ls gone i = t ∧ MOk r bw ls (gone.set i (gone.getD i 0 + 1)) T := by
  obtain ⟨j, hj, hjx⟩ := (rem_mem h.len).mp (h.perm.subset (List.mem_cons_self (a := t)))
  obtain ⟨w1, w2⟩ := win_best h.L h.le ls.length 0 ls.length rfl (by omega) (Nat.le_refl _)
  have hjl : gone.getD j 0 < (ls.getD j []).length := by
    have := List.length_pos_of_mem hjx
    rw [List.length_drop] at this
    omega
  cases hw : win r bw ls gone 0 ls.length with
  | none =>
    have := w1 hw j (Nat.zero_le _) hj
    omega
  | some i =>
    obtain ⟨_, i2, i3, i4⟩ := w2 i hw
    -- fr i stands ahead of all others that are left
    have best : ∀ x ∈ rem ls gone, x = fr ls gone i ∨ bt r bw (fr ls gone i) x := by
      intro x hx
      obtain ⟨k, hk, hkx⟩ := (rem_mem h.len).mp hx
      have hkl : gone.getD k 0 < (ls.getD k []).length := by
        have := List.length_pos_of_mem hkx
        rw [List.length_drop] at this
        omega
      have own : x = fr ls gone k ∨ bt r bw (fr ls gone k) x := by
        have hp := pw_drop (h.L.ri k hk) (gone.getD k 0)
        rw [drop_get hkl] at hkx hp
        rcases List.mem_cons.mp hkx with m | m
        · exact .inl m
        · exact .inr ((List.pairwise_cons.mp hp).1 x m)
      rcases i4 k (Nat.zero_le _) hk hkl with m | m
      · subst m; exact own
      · rcases own with o | o
        · rw [o]; exact .inr m
        · exact .inr (bt_trans m o)
    have hfr : fr ls gone i ∈ rem ls gone := (rem_mem h.len).mpr ⟨i, i2, by rw [drop_get i3]; exact List.mem_cons_self⟩
    have et : fr ls gone i = t := by
      rcases List.mem_cons.mp (h.perm.symm.subset hfr) with m | m
      · exact m
      · have h1 := (List.pairwise_cons.mp h.pw).1 _ m
        rcases best t (h.perm.subset List.mem_cons_self) with n | n
        · exact n.symm
        · exact absurd n (bt_asymm h1)
    have hgl : i < gone.length := by rw [← h.len]; exact i2
    refine ⟨i, rfl, i2, i3, et, h.L, ?_, fun j hj => ?_, ?_, (List.pairwise_cons.mp h.pw).2⟩
    · rw [List.length_set]; exact h.len
    · rw [gone_set hgl]
      by_cases e : i = j
      · subst e; rw [if_pos rfl]; omega
      · rw [if_neg e]; exact h.le j hj
    · have := h.perm.trans (rem_send h.len i2 i3)
      rw [et] at this
      exact (List.perm_cons t).mp this
theorem rem_zero : ∀ (ls : List (List Nat)), rem ls (List.replicate ls.length 0) = ls.flatten
  | [] => rfl
  | l :: ls => by
    show rem (l :: ls) (0 :: List.replicate ls.length 0) = _
    unfold rem
    rw [rem_zero ls, List.drop_zero, List.flatten_cons]
theorem getD_repl (n i : Nat) : (List.replicate n 0).getD i 0 = 0 := by
  rw [List.getD_eq_getElem?_getD, List.getElem?_replicate]
  split <;> rfl
theorem MOk.start {r : Nat → Nat} {bw : Bool} {ls : List (List Nat)} {T : List Nat} (L : LinesOk r bw ls) (p : T.Perm ls.flatten) (h : T.Pairwise (bt r bw)) : MOk r bw ls (List.replicate ls.length 0) T :=
  ⟨L, by rw [List.length_replicate], fun i _ => by rw [getD_repl]; exact Nat.zero_le _, by rw [rem_zero]; exact p, h⟩
/-! ### single lines -/
def singles (N : Nat) : List (List Nat) := (List.range N).map fun x => [x]
theorem singles_get {N i : Nat} (h : i < N) : (singles N).getD i [] = [i] := by
  unfold singles
  rw [List.getD_eq_getElem?_getD, List.getElem?_map, List.getElem?_range h]; rfl
theorem singles_length (N : Nat) : (singles N).length = N := by unfold singles; rw [List.length_map, List.length_range]
theorem singles_ok (r : Nat → Nat) (bw : Bool) (N : Nat) : LinesOk r bw (singles N) := by
  refine ⟨fun i hi => ?_, fun i j hij hj x hx y hy => ?_⟩
  · rw [singles_length] at hi
    rw [singles_get hi]
    exact List.pairwise_singleton _ _
  · rw [singles_length] at hj
    rw [singles_get (by omega)] at hx
    rw [singles_get hj] at hy
    have := List.mem_singleton.mp hx
    have := List.mem_singleton.mp hy
    omega
theorem flat_singles : ∀ l : List Nat, (l.map fun x => [x]).flatten = l
  | [] => rfl
  | a :: l => by rw [List.map_cons, List.flatten_cons, flat_singles l]; rfl
/-- the row told forwards or backwards -/
def arrB (r : Nat → Nat) (bw : Bool) (N : Nat) : List Nat := if bw = true then (arr r N).reverse else arr r N
theorem arrB_length (r : Nat → Nat) (bw : Bool) (N : Nat) : (arrB r bw N).length = N := by
  unfold arrB
  cases bw
  · exact arr_length r N
  · show (arr r N).reverse.length = N
    rw [List.length_reverse, arr_length]
theorem arrB_pw (r : Nat → Nat) (bw : Bool) (N : Nat) : (arrB r bw N).Pairwise (bt r bw) := by
  unfold arrB bt
  cases bw
  · exact arr_pw r N
  · show (arr r N).reverse.Pairwise fun x y => ah r y x
    rw [List.pairwise_reverse]
    exact arr_pw r N
theorem arrB_perm (r : Nat → Nat) (bw : Bool) (N : Nat) : (arrB r bw N).Perm (List.range N) := by
  unfold arrB
  cases bw
  · exact arr_perm r N
  · exact (List.reverse_perm _).trans (arr_perm r N)
theorem single_start (r : Nat → Nat) (bw : Bool) (N : Nat) : MOk r bw (singles N) (List.replicate (singles N).length 0) (arrB r bw N) :=
  MOk.start (singles_ok r bw N) (by unfold singles; rw [flat_singles]; exact arrB_perm r bw N) (arrB_pw r bw N)
end NM

/-! Heaps; kept rows. -/
namespace NM

/-- y doesn't stand ahead of x -/
def le (r : Nat → Nat) (x y : Nat) : Prop := ¬ ah r y x
theorem le_refl (r : Nat → Nat) (x : Nat) : le r x x := ah_irr
theorem le_trans {r : Nat → Nat} {x y z : Nat} (h1 : le r x y) (h2 : le r y z) : le r x z := by unfold le ah at *; omega
theorem le_of {r : Nat → Nat} {x y : Nat} (h : ah r x y) : le r x y := ah_asymm h
theorem le_anti {r : Nat → Nat} {x y : Nat} (h1 : le r x y) (h2 : le r y x) : x = y := by unfold le ah at *; omega
/-- whether x stands ahead of y, by one ask -/
def sa (r : Nat → Nat) (x y : Nat) : Bool := if x < y then !decide (r y < r x) else decide (r x < r y)
theorem sa_iff (r : Nat → Nat) (x y : Nat) : sa r x y = true ↔ ah r x y := by
  unfold sa ah
  by_cases h : x < y
  · rw [if_pos h]
    by_cases q : r y < r x <;> simp [q] <;> omega
  · rw [if_neg h]
    by_cases q : r x < r y <;> simp [q] <;> omega
theorem sa_no {r : Nat → Nat} {x y : Nat} : sa r x y = false ↔ le r y x := by
  unfold le
  rw [← sa_iff]
  cases sa r x y <;> simp

def gv (t : List Nat) (i : Nat) : Nat := t.getD i 0
theorem gv_set {t : List Nat} {p x j : Nat} (h : p < t.length) : gv (t.set p x) j = if p = j then x else gv t j := gone_set h

/-! ### up -/
def up (r : Nat → Nat) (x : Nat) (t : List Nat) (p : Nat) : List Nat × Nat :=
  if 0 < p then
    if sa r x (gv t ((p - 1) / 2)) = true then ((up r x (t.set p (gv t ((p - 1) / 2))) ((p - 1) / 2)).1, (up r x (t.set p (gv t ((p - 1) / 2))) ((p - 1) / 2)).2 + 1)
    else (t.set p x, 1)
  else (t.set p x, 0)
termination_by p
decreasing_by all_goals omega
theorem up_end {r : Nat → Nat} {x : Nat} {t : List Nat} {p : Nat} (h : ¬ 0 < p) : up r x t p = (t.set p x, 0) := by rw [up, if_neg h]
theorem up_no {r : Nat → Nat} {x : Nat} {t : List Nat} {p : Nat} (h : 0 < p) (q : ¬ sa r x (gv t ((p - 1) / 2)) = true) : up r x t p = (t.set p x, 1) := by rw [up, if_pos h, if_neg q]
theorem up_yes {r : Nat → Nat} {x : Nat} {t : List Nat} {p : Nat} (h : 0 < p) (q : sa r x (gv t ((p - 1) / 2)) = true) :
    up r x t p = ((up r x (t.set p (gv t ((p - 1) / 2))) ((p - 1) / 2)).1, (up r x (t.set p (gv t ((p - 1) / 2))) ((p - 1) / 2)).2 + 1) := by
  conv => lhs; rw [up, if_pos h, if_pos q]
theorem up_asks (r : Nat → Nat) (x : Nat) : ∀ (p : Nat) (t : List Nat), (up r x t p).2 ≤ twos (p + 1) := by
  intro p
  induction p using Nat.strongRecOn with
  | ind p ih =>
    intro t
    by_cases h : 0 < p
    · by_cases q : sa r x (gv t ((p - 1) / 2)) = true
      · rw [up_yes h q]
        have h1 := ih ((p - 1) / 2) (by omega) (t.set p (gv t ((p - 1) / 2)))
        have h2 := (twos_lt_half (n := p + 1) (by omega)).1
        have e : (p - 1) / 2 + 1 = (p + 1) / 2 := by omega
        rw [e] at h1
        dsimp only
        omega
      · rw [up_no h q]
        exact twos_pos (by omega)
    · rw [up_end h]; exact Nat.zero_le _
/-- an exchange of two places -/
theorem swap_perm {t : List Nat} {p q x : Nat} (hp : p < t.length) (hq : q < t.length) (hpq : p ≠ q) : ((t.set p (gv t q)).set q x).Perm (t.set p x) := by
  have h1 : q < (t.set p x).length := by rw [List.length_set]; exact hq
  have h2 : p < (t.set p x).length := by rw [List.length_set]; exact hp
  have e1 : (t.set p x)[q] = gv t q := by
    rw [List.getElem_set_ne hpq]
    exact (getD_get hq).symm
  have e2 : (t.set p x)[p] = x := by rw [List.getElem_set_self]
  have := List.set_set_perm h2 h1
  rw [e1, e2, List.set_set] at this
  exact this
/-- the edges of the tree from the parents k on -/
def HeapFrom (r : Nat → Nat) (k : Nat) (t : List Nat) : Prop := ∀ i, 0 < i → i < t.length → k ≤ (i - 1) / 2 → le r (gv t ((i - 1) / 2)) (gv t i)
theorem up_ok {r : Nat → Nat} {x : Nat} : ∀ (p : Nat) (t : List Nat), p < t.length →
    (∀ i, 0 < i → i < t.length → i ≠ p → le r (gv (t.set p x) ((i - 1) / 2)) (gv (t.set p x) i)) →
    (0 < p → ∀ i, 0 < i → i < t.length → (i - 1) / 2 = p → le r (gv (t.set p x) ((p - 1) / 2)) (gv (t.set p x) i)) →
    HeapFrom r 0 (up r x t p).1 ∧ (up r x t p).1.Perm (t.set p x) := by
  intro p
  induction p using Nat.strongRecOn with
  | ind p ih =>
    intro t hp h1 h2
    by_cases h : 0 < p
    · have hq : (p - 1) / 2 < t.length := by omega
      have hne : p ≠ (p - 1) / 2 := by omega
      by_cases q : sa r x (gv t ((p - 1) / 2)) = true
      · rw [up_yes h q]
        have hx := le_of ((sa_iff r x _).mp q)
        have hl : (t.set p (gv t ((p - 1) / 2))).length = t.length := List.length_set
        have val : ∀ j, gv ((t.set p (gv t ((p - 1) / 2))).set ((p - 1) / 2) x) j = if (p - 1) / 2 = j then x else if p = j then gv t ((p - 1) / 2) else gv t j := fun j => by
          rw [gv_set (by rw [hl]; exact hq), gv_set hp]
        have val0 : ∀ j, gv (t.set p x) j = if p = j then x else gv t j := fun j => gv_set hp
        obtain ⟨a, b⟩ := ih ((p - 1) / 2) (by omega) (t.set p (gv t ((p - 1) / 2))) (by rw [hl]; exact hq) (fun i i0 il ine => by
          rw [hl] at il
          have vi : gv ((t.set p (gv t ((p - 1) / 2))).set ((p - 1) / 2) x) i = if p = i then gv t ((p - 1) / 2) else gv t i := by rw [val, if_neg (fun z => ine z.symm)]
          by_cases ei : p = i
          · subst ei
            rw [val ((p - 1) / 2), vi, if_pos rfl, if_pos rfl]; exact hx
          · have g1 := h1 i i0 il (fun z => ei z.symm)
            rw [val0 ((i - 1) / 2), val0 i, if_neg ei] at g1
            rw [vi, if_neg ei]
            by_cases ep : p = (i - 1) / 2
            · have g2 := h2 h i i0 il ep.symm
              rw [val0 ((p - 1) / 2), val0 i, if_neg hne, if_neg ei] at g2
              rw [val ((i - 1) / 2), ← ep, if_neg (fun z => hne z.symm), if_pos rfl]; exact g2
            · rw [if_neg ep] at g1
              rw [val ((i - 1) / 2)]
              by_cases eq : (p - 1) / 2 = (i - 1) / 2
              · rw [if_pos eq]; rw [← eq] at g1; exact le_trans hx g1
              · rw [if_neg eq, if_neg ep]; exact g1) (fun q0 i i0 il ep => by
          rw [hl] at il
          have gq := h1 ((p - 1) / 2) q0 hq (fun z => hne z.symm)
          rw [val0, val0, if_neg hne, if_neg (by omega)] at gq
          rw [val, val, if_neg (by omega), if_neg (by omega), if_neg (by omega)]
          by_cases ei : i = p
          · subst ei
            rw [if_pos rfl]; exact gq
          · rw [if_neg (fun z => ei z.symm)]
            have g1 := h1 i i0 il ei
            rw [val0, val0, if_neg (by omega), if_neg (fun z => ei z.symm), ep] at g1
            exact le_trans gq g1)
        exact ⟨a, b.trans (swap_perm hp hq hne)⟩
      · rw [up_no h q]
        have hx := sa_no.mp (by simpa using q)
        refine ⟨fun i i0 il _ => ?_, List.Perm.refl _⟩
        have il : i < t.length := by simpa using il
        by_cases ei : i = p
        · subst ei
          dsimp only
          rw [gv_set hp, gv_set hp, if_neg hne, if_pos rfl]
          exact hx
        · exact h1 i i0 il ei
    · rw [up_end h]
      refine ⟨fun i i0 il _ => ?_, List.Perm.refl _⟩
      have il : i < t.length := by simpa using il
      exact h1 i i0 il (by omega)

/-! ### down -/
/-- the child that goes up, and the asks for it -/
def kid (r : Nat → Nat) (t : List Nat) (u : Nat) : Nat × Nat := if u + 1 < t.length then (if sa r (gv t (u + 1)) (gv t u) = true then u + 1 else u, 1) else (u, 0)
theorem kid_is (r : Nat → Nat) (t : List Nat) (u : Nat) (hu : u < t.length) : ((kid r t u).1 = u ∨ (kid r t u).1 = u + 1) ∧ (kid r t u).1 < t.length ∧ (kid r t u).2 ≤ 1 ∧ (∀ j, (j = u ∨ j = u + 1) → j < t.length → le r (gv t (kid r t u).1) (gv t j)) := by
  unfold kid
  by_cases h : u + 1 < t.length
  · rw [if_pos h]
    by_cases q : sa r (gv t (u + 1)) (gv t u) = true
    · rw [if_pos q]
      refine ⟨.inr rfl, h, Nat.le_refl _, fun j hj _ => ?_⟩
      rcases hj with e | e
      · subst e; exact le_of ((sa_iff _ _ _).mp q)
      · subst e; exact le_refl _ _
    · rw [if_neg q]
      refine ⟨.inl rfl, hu, Nat.le_refl _, fun j hj _ => ?_⟩
      rcases hj with e | e
      · subst e; exact le_refl _ _
      · subst e; exact sa_no.mp (by simpa using q)
  · rw [if_neg h]
    refine ⟨.inl rfl, hu, Nat.zero_le _, fun j hj hl => ?_⟩
    rcases hj with e | e
    · subst e; exact le_refl _ _
    · omega
def dn (r : Nat → Nat) (x : Nat) (t : List Nat) (p : Nat) : List Nat × Nat :=
  if 2 * p + 1 < t.length then
    if sa r (gv t (kid r t (2 * p + 1)).1) x = true then
      ((dn r x (t.set p (gv t (kid r t (2 * p + 1)).1)) (kid r t (2 * p + 1)).1).1, (dn r x (t.set p (gv t (kid r t (2 * p + 1)).1)) (kid r t (2 * p + 1)).1).2 + 1 + (kid r t (2 * p + 1)).2)
    else (t.set p x, 1 + (kid r t (2 * p + 1)).2)
  else (t.set p x, 0)
termination_by t.length - p
decreasing_by
  all_goals
    rename_i h _
    have := kid_is r t (2 * p + 1) h
    simp only [List.length_set]
    omega
theorem dn_end {r : Nat → Nat} {x : Nat} {t : List Nat} {p : Nat} (h : ¬ 2 * p + 1 < t.length) : dn r x t p = (t.set p x, 0) := by rw [dn, if_neg h]
theorem dn_no {r : Nat → Nat} {x : Nat} {t : List Nat} {p : Nat} (h : 2 * p + 1 < t.length) (q : ¬ sa r (gv t (kid r t (2 * p + 1)).1) x = true) : dn r x t p = (t.set p x, 1 + (kid r t (2 * p + 1)).2) := by
  rw [dn, if_pos h, if_neg q]
theorem dn_yes {r : Nat → Nat} {x : Nat} {t : List Nat} {p : Nat} (h : 2 * p + 1 < t.length) (q : sa r (gv t (kid r t (2 * p + 1)).1) x = true) : dn r x t p =
    ((dn r x (t.set p (gv t (kid r t (2 * p + 1)).1)) (kid r t (2 * p + 1)).1).1, (dn r x (t.set p (gv t (kid r t (2 * p + 1)).1)) (kid r t (2 * p + 1)).1).2 + 1 + (kid r t (2 * p + 1)).2) := by
  conv => lhs; rw [dn, if_pos h, if_pos q]
theorem dn_ok {r : Nat → Nat} {x k : Nat} : ∀ (d : Nat) (t : List Nat) (p : Nat), t.length - p = d → p < t.length → k ≤ p →
    (∀ i, 0 < i → i < t.length → k ≤ (i - 1) / 2 → (i - 1) / 2 ≠ p → le r (gv (t.set p x) ((i - 1) / 2)) (gv (t.set p x) i)) →
    (0 < p → k ≤ (p - 1) / 2 → ∀ i, 0 < i → i < t.length → (i - 1) / 2 = p → le r (gv (t.set p x) ((p - 1) / 2)) (gv (t.set p x) i)) →
    HeapFrom r k (dn r x t p).1 ∧ (dn r x t p).1.Perm (t.set p x) := by
  intro d
  induction d using Nat.strongRecOn with
  | ind d ih =>
    intro t p hd hp hk h1 h2
    have val0 : ∀ j, gv (t.set p x) j = if p = j then x else gv t j := fun j => gv_set hp
    by_cases h : 2 * p + 1 < t.length
    · obtain ⟨k1, k2, k3, k4⟩ := kid_is r t (2 * p + 1) h
      generalize hu : (kid r t (2 * p + 1)).1 = u at *
      have hpu : p ≠ u := by omega
      have hup : (u - 1) / 2 = p := by omega
      by_cases q : sa r (gv t u) x = true
      · rw [dn_yes h (by rw [hu]; exact q), hu]
        have hx := le_of ((sa_iff r _ x).mp q)
        have hl : (t.set p (gv t u)).length = t.length := List.length_set
        have val : ∀ j, gv ((t.set p (gv t u)).set u x) j = if u = j then x else if p = j then gv t u else gv t j := fun j => by
          rw [gv_set (by rw [hl]; exact k2), gv_set hp]
        obtain ⟨a, b⟩ := ih (t.length - u) (by omega) (t.set p (gv t u)) u (by rw [hl]) (by rw [hl]; exact k2) (by omega) (fun i i0 il ik ine => by
          rw [hl] at il
          rw [val, val, if_neg (fun z => ine z.symm)]
          by_cases ep : (i - 1) / 2 = p
          · rw [if_pos ep.symm]
            by_cases eu : u = i
            · rw [if_pos eu]; exact hx
            · rw [if_neg eu, if_neg (by omega)]
              exact k4 i (by omega) il
          · rw [if_neg (fun z => ep z.symm)]
            by_cases eu : u = i
            · omega
            · rw [if_neg eu]
              by_cases ei : p = i
              · rw [if_pos ei]
                subst ei
                have g2 := h2 i0 ik u (by omega) k2 hup
                rw [val0, val0, if_neg (by omega), if_neg hpu] at g2
                exact g2
              · rw [if_neg ei]
                have g1 := h1 i i0 il ik ep
                rw [val0, val0, if_neg (fun z => ep z.symm), if_neg ei] at g1
                exact g1) (fun u0 _ i i0 il eu => by
          rw [hl] at il
          rw [hup, val, val, if_neg (fun z => hpu z.symm), if_pos rfl, if_neg (by omega), if_neg (by omega)]
          have g1 := h1 i i0 il (by omega) (by omega)
          rw [val0, val0, if_neg (by omega), if_neg (by omega), eu] at g1
          exact g1)
        exact ⟨a, b.trans (swap_perm hp k2 hpu)⟩
      · rw [dn_no h (by rw [hu]; exact q)]
        have hx := sa_no.mp (by simpa using q)
        refine ⟨fun i i0 il ik => ?_, List.Perm.refl _⟩
        have il : i < t.length := by simpa using il
        dsimp only at ik ⊢
        by_cases ep : (i - 1) / 2 = p
        · rw [val0, val0, if_pos ep.symm, if_neg (by omega)]
          exact le_trans hx (k4 i (by omega) il)
        · exact h1 i i0 il ik ep
    · rw [dn_end h]
      refine ⟨fun i i0 il ik => ?_, List.Perm.refl _⟩
      have il : i < t.length := by simpa using il
      exact h1 i i0 il ik (by omega)
/-- how deep the tree goes below a place -/
def ht : Nat → Nat → Nat → Nat
  | 0, _, _ => 0
  | k + 1, n, i => if 2 * i + 1 < n then ht k n (2 * i + 1) + 1 else 0
theorem ht_mono : ∀ (k n i j : Nat), i ≤ j → ht k n j ≤ ht k n i
  | 0, _, _, _, _ => Nat.le_refl _
  | k + 1, n, i, j, h => by
    unfold ht
    by_cases q : 2 * j + 1 < n
    · rw [if_pos q, if_pos (by omega)]
      have := ht_mono k n (2 * i + 1) (2 * j + 1) (by omega)
      omega
    · rw [if_neg q]; exact Nat.zero_le _
theorem ht_pow : ∀ (k n i : Nat), i < n → (i + 1) * 2 ^ ht k n i ≤ n
  | 0, n, i, h => by unfold ht; omega
  | k + 1, n, i, h => by
    unfold ht
    by_cases q : 2 * i + 1 < n
    · rw [if_pos q, Nat.pow_succ]
      have := ht_pow k n (2 * i + 1) q
      have e : (i + 1) * (2 ^ ht k n (2 * i + 1) * 2) = (2 * i + 1 + 1) * 2 ^ ht k n (2 * i + 1) := by
        rw [Nat.mul_comm (2 ^ _) 2, ← Nat.mul_assoc]
        congr 1
        omega
      omega
    · rw [if_neg q]; omega
theorem dn_asks (r : Nat → Nat) (x : Nat) : ∀ (k : Nat) (t : List Nat) (p : Nat), t.length - p ≤ k → (dn r x t p).2 ≤ 2 * ht k t.length p
  | 0, t, p, h => by rw [dn_end (by omega)]; exact Nat.zero_le _
  | k + 1, t, p, h => by
    by_cases q : 2 * p + 1 < t.length
    · obtain ⟨k1, k2, k3, k4⟩ := kid_is r t (2 * p + 1) q
      have e : ht (k + 1) t.length p = ht k t.length (2 * p + 1) + 1 := by
        conv => lhs; unfold ht
        rw [if_pos q]
      rw [e]
      by_cases z : sa r (gv t (kid r t (2 * p + 1)).1) x = true
      · rw [dn_yes q z]
        have := dn_asks r x k (t.set p (gv t (kid r t (2 * p + 1)).1)) (kid r t (2 * p + 1)).1 (by rw [List.length_set]; omega)
        rw [List.length_set] at this
        have := ht_mono k t.length (2 * p + 1) (kid r t (2 * p + 1)).1 (by omega)
        dsimp only
        omega
      · rw [dn_no q z]
        dsimp only
        omega
    · rw [dn_end q]; exact Nat.zero_le _

/-! ### a line at once -/
def bd (r : Nat → Nat) (t : List Nat) : Nat → List Nat × Nat
  | 0 => (t, 0)
  | k + 1 => ((bd r (dn r (gv t k) t k).1 k).1, (bd r (dn r (gv t k) t k).1 k).2 + (dn r (gv t k) t k).2)
theorem set_self {t : List Nat} {k : Nat} : t.set k (gv t k) = t := by
  by_cases h : k < t.length
  · unfold gv
    rw [getD_get h, List.set_getElem_self]
  · exact List.set_eq_of_length_le (by omega)
theorem dn_length (r : Nat → Nat) (x : Nat) {t : List Nat} {p : Nat} : ∀ d, t.length - p = d → (dn r x t p).1.length = t.length := by
  intro d
  induction d using Nat.strongRecOn generalizing t p with
  | ind d ih =>
    intro hd
    by_cases q : 2 * p + 1 < t.length
    · obtain ⟨k1, k2, k3, k4⟩ := kid_is r t (2 * p + 1) q
      by_cases z : sa r (gv t (kid r t (2 * p + 1)).1) x = true
      · rw [dn_yes q z]
        have := ih (t.length - (kid r t (2 * p + 1)).1) (by omega) (t := t.set p (gv t (kid r t (2 * p + 1)).1)) (p := (kid r t (2 * p + 1)).1) (by rw [List.length_set])
        rw [List.length_set] at this
        exact this
      · rw [dn_no q z]; exact List.length_set
    · rw [dn_end q]; exact List.length_set
def bdAsks (n : Nat) : Nat → Nat
  | 0 => 0
  | k + 1 => bdAsks n k + 2 * ht n n k
theorem bd_ok {r : Nat → Nat} : ∀ (k : Nat) (t : List Nat), k ≤ t.length → HeapFrom r k t → HeapFrom r 0 (bd r t k).1 ∧ (bd r t k).1.Perm t ∧ (bd r t k).2 ≤ bdAsks t.length k
  | 0, t, _, h => ⟨h, List.Perm.refl _, Nat.le_refl _⟩
  | k + 1, t, hk, h => by
    have hl := dn_length r (gv t k) (t := t) (p := k) _ rfl
    obtain ⟨a, b⟩ := dn_ok (r := r) (x := gv t k) (k := k) _ t k rfl (by omega) (Nat.le_refl _) (fun i i0 il ik ine => by
      rw [set_self]; exact h i i0 il (by omega)) (fun p0 pk => by omega)
    rw [set_self] at b
    obtain ⟨c1, c2, c3⟩ := bd_ok k (dn r (gv t k) t k).1 (by omega) a
    refine ⟨c1, c2.trans b, ?_⟩
    have := dn_asks r (gv t k) t.length t k (by omega)
    rw [hl] at c3
    show _ ≤ bdAsks t.length k + 2 * ht t.length t.length k
    show (bd r (dn r (gv t k) t k).1 k).2 + (dn r (gv t k) t k).2 ≤ _
    omega
theorem bdAsks_all : ∀ n, n < 61 → bdAsks n (n / 2) ≤ 2 * n := by decide +kernel
theorem half_heap (r : Nat → Nat) (t : List Nat) : HeapFrom r (t.length / 2) t := fun i i0 il ik => by omega
/-! ### what a heap holds: T, as arrangements have it -/
structure HOk (r : Nat → Nat) (t T : List Nat) : Prop where
  heap : HeapFrom r 0 t
  perm : t.Perm T
  pw : T.Pairwise (ah r)
theorem HeapFrom.root {r : Nat → Nat} {t : List Nat} (h : HeapFrom r 0 t) : ∀ i, i < t.length → le r (gv t 0) (gv t i) := by
  intro i
  induction i using Nat.strongRecOn with
  | ind i ih =>
    intro hi
    by_cases z : 0 < i
    · exact le_trans (ih ((i - 1) / 2) (by omega) (by omega)) (h i z hi (Nat.zero_le _))
    · rw [show i = 0 by omega]; exact le_refl _ _
theorem HOk.first {r : Nat → Nat} {t : List Nat} {a : Nat} {T : List Nat} (h : HOk r t (a :: T)) : gv t 0 = a := by
  have hl : 0 < t.length := by rw [h.perm.length_eq]; exact Nat.succ_pos _
  have ha : a ∈ t := h.perm.symm.subset List.mem_cons_self
  obtain ⟨j, hj, e⟩ := List.mem_iff_getElem.mp ha
  have h1 := h.heap.root j hj
  have e2 : gv t j = a := by unfold gv; rw [getD_get hj]; exact e
  rw [e2] at h1
  have h0 : gv t 0 ∈ a :: T := h.perm.subset (getD_mem hl)
  rcases List.mem_cons.mp h0 with m | m
  · exact m
  · exact absurd ((List.pairwise_cons.mp h.pw).1 _ m) h1
/-- the first one taken out -/
def tk (r : Nat → Nat) (t : List Nat) : List Nat × Nat := if t.dropLast = [] then ([], 0) else dn r (gv t (t.length - 1)) (t.dropLast.set 0 (gv t (t.length - 1))) 0
theorem HOk.take {r : Nat → Nat} {t : List Nat} {a : Nat} {T : List Nat} (h : HOk r t (a :: T)) : HOk r (tk r t).1 T ∧ (tk r t).2 ≤ 2 * twos t.length := by
  have hf := h.first
  have hl : 0 < t.length := by rw [h.perm.length_eq]; exact Nat.succ_pos _
  have hpw := (List.pairwise_cons.mp h.pw).2
  have hlen := h.perm.length_eq
  unfold tk
  by_cases z : t.dropLast = []
  · rw [if_pos z]
    have : t.length = 1 := by
      have := congrArg List.length z
      rw [List.length_dropLast] at this
      simp at this
      omega
    have : T = [] := by
      rw [List.length_cons] at hlen
      exact List.length_eq_zero_iff.mp (by omega)
    subst this
    exact ⟨⟨fun i _ il => by simp at il, List.Perm.refl _, hpw⟩, Nat.zero_le _⟩
  · rw [if_neg z]
    have hl2 : 1 < t.length := by
      have := List.length_pos_iff.mpr z
      rw [List.length_dropLast] at this
      omega
    have hdl : t.dropLast.length = t.length - 1 := List.length_dropLast
    have gd : ∀ j, j < t.length - 1 → gv t.dropLast j = gv t j := fun j hj => by
      unfold gv
      rw [getD_get (by omega), getD_get (by omega), List.getElem_dropLast]
    obtain ⟨c, d⟩ := dn_ok (r := r) (x := gv t (t.length - 1)) (k := 0) _ (t.dropLast.set 0 (gv t (t.length - 1))) 0 rfl (by rw [List.length_set]; omega) (Nat.le_refl _) (fun i i0 il _ ine => by
      rw [List.length_set] at il
      rw [List.set_set, gv_set (by omega), gv_set (by omega), if_neg (by omega), if_neg (by omega), gd _ (by omega), gd _ (by omega)]
      exact h.heap i i0 (by omega) (Nat.zero_le _)) (fun p0 => absurd p0 (Nat.lt_irrefl _))
    refine ⟨⟨c, ?_, hpw⟩, ?_⟩
    · rw [List.set_set] at d
      have e1 : t.dropLast.set 0 (gv t (t.length - 1)) = gv t (t.length - 1) :: t.dropLast.drop 1 := by
        cases hd : t.dropLast with
        | nil => exact absurd hd z
        | cons u v => rfl
      have e2 : t = gv t 0 :: (t.dropLast.drop 1 ++ [gv t (t.length - 1)]) := by
        have hne : t ≠ [] := fun q => by rw [q] at hl; exact absurd hl (Nat.lt_irrefl _)
        have e3 := List.dropLast_concat_getLast hne
        have e4 : t.getLast hne = gv t (t.length - 1) := by
          unfold gv
          rw [getD_get (by omega), List.getLast_eq_getElem]
        have e5 : t.dropLast = gv t 0 :: t.dropLast.drop 1 := by
          have := gd 0 (by omega)
          cases hd : t.dropLast with
          | nil => exact absurd hd z
          | cons u v =>
            rw [hd] at this
            show u :: v = gv t 0 :: v
            rw [← this]; rfl
        rw [e4] at e3
        conv => lhs; rw [← e3, e5]
        rfl
      have p1 : t.Perm (gv t 0 :: (gv t (t.length - 1) :: t.dropLast.drop 1)) := by
        conv => lhs; rw [e2]
        exact (List.perm_cons _).mpr (List.perm_append_comm (l₂ := [gv t (t.length - 1)]))
      rw [← e1] at p1
      have p2 := p1.symm.trans h.perm
      rw [hf] at p2
      exact d.trans ((List.perm_cons a).mp p2)
    · have h1 := dn_asks r (gv t (t.length - 1)) t.length (t.dropLast.set 0 (gv t (t.length - 1))) 0 (by rw [List.length_set]; omega)
      rw [List.length_set, hdl] at h1
      have h2 := ht_pow t.length (t.length - 1) 0 (by omega)
      have h3 := twos_pow t.length
      have h4 : ht t.length (t.length - 1) 0 ≤ twos t.length := by
        rcases Nat.lt_or_ge (twos t.length) (ht t.length (t.length - 1) 0) with k | k
        · have := Nat.pow_lt_pow_right (by decide : 1 < 2) k
          omega
        · exact k
      omega
/-- the arrangement of some numbers -/
theorem sorted_put {r : Nat → Nat} {T : List Nat} (h : T.Pairwise (ah r)) (x : Nat) (hx : x ∉ T) : ∃ U : List Nat, U.Perm (x :: T) ∧ U.Pairwise (ah r) := by
  induction T with
  | nil => exact ⟨[x], List.Perm.refl _, List.pairwise_singleton _ _⟩
  | cons a T ih =>
    obtain ⟨h1, h2⟩ := List.pairwise_cons.mp h
    have hxa : x ≠ a := fun e => hx (by rw [e]; exact List.mem_cons_self)
    rcases ah_total (r := r) hxa with q | q
    · refine ⟨x :: a :: T, List.Perm.refl _, List.pairwise_cons.mpr ⟨fun y hy => ?_, h⟩⟩
      rcases List.mem_cons.mp hy with e | e
      · subst e; exact q
      · exact ah_trans q (h1 y e)
    · obtain ⟨U, u1, u2⟩ := ih h2 fun e => hx (List.mem_cons_of_mem _ e)
      refine ⟨a :: U, ((List.perm_cons a).mpr u1).trans (List.Perm.swap _ _ _), List.pairwise_cons.mpr ⟨fun y hy => ?_, u2⟩⟩
      rcases List.mem_cons.mp (u1.subset hy) with e | e
      · subst e; exact q
      · exact h1 y e
theorem sorted_of {r : Nat → Nat} : ∀ l : List Nat, l.Nodup → ∃ U : List Nat, l.Perm U ∧ U.Pairwise (ah r)
  | [], _ => ⟨[], List.Perm.refl _, List.Pairwise.nil⟩
  | x :: l, h => by
    obtain ⟨h1, h2⟩ := List.nodup_cons.mp h
    obtain ⟨U, u1, u2⟩ := sorted_of (r := r) l h2
    obtain ⟨W, w1, w2⟩ := sorted_put u2 x fun e => h1 (u1.symm.subset e)
    exact ⟨W, ((List.perm_cons x).mpr u1).trans w1.symm, w2⟩
/-- a number put -/
theorem HOk.put {r : Nat → Nat} {t T : List Nat} (h : HOk r t T) (x : Nat) (hx : x ∉ t) : ∃ U, HOk r (up r x (t ++ [x]) t.length).1 U ∧ U.Perm (x :: T) ∧ (up r x (t ++ [x]) t.length).2 ≤ twos (t.length + 1) := by
  obtain ⟨U, u1, u2⟩ := sorted_put h.pw x fun e => hx (h.perm.symm.subset e)
  have es : (t ++ [x]).set t.length x = t ++ [x] := by
    rw [List.set_append_right _ _ (Nat.le_refl _), Nat.sub_self]; rfl
  have gl : ∀ j, j < t.length → gv (t ++ [x]) j = gv t j := fun j hj => by
    unfold gv
    rw [List.getD_eq_getElem?_getD, List.getD_eq_getElem?_getD, List.getElem?_append_left hj]
  obtain ⟨a, b⟩ := up_ok (r := r) (x := x) t.length (t ++ [x]) (by simp) (fun i i0 il ine => by
    have il : i < t.length + 1 := by simpa using il
    rw [es, gl _ (by omega), gl _ (by omega)]
    exact h.heap i i0 (by omega) (Nat.zero_le _)) (fun _ i i0 il e => by
    have il : i < t.length + 1 := by simpa using il
    omega)
  rw [es] at b
  refine ⟨U, ⟨a, ?_, u2⟩, u1, up_asks r x t.length (t ++ [x])⟩
  exact b.trans ((List.perm_append_comm (l₂ := [x])).trans (((List.perm_cons x).mpr h.perm).trans u1.symm))
/-- a line put at once into an empty one -/
theorem HOk.all {r : Nat → Nat} {l : List Nat} (hn : l.Nodup) (h60 : l.length < 61) : ∃ U, HOk r (bd r l (l.length / 2)).1 U ∧ (bd r l (l.length / 2)).2 ≤ 2 * l.length := by
  obtain ⟨U, u1, u2⟩ := sorted_of (r := r) l hn
  obtain ⟨a, b, c⟩ := bd_ok (l.length / 2) l (by omega) (half_heap r l)
  exact ⟨U, ⟨a, b.trans u1, u2⟩, Nat.le_trans c (bdAsks_all l.length h60)⟩

/-! ### kept rows -/
def pm (r : Nat → Nat) (l : List Nat) (x s e : Nat) : Nat × Nat :=
  if s < e then
    if sa r x (gv l ((s + e) / 2)) = true then ((pm r l x s ((s + e) / 2)).1, (pm r l x s ((s + e) / 2)).2 + 1)
    else ((pm r l x ((s + e) / 2 + 1) e).1, (pm r l x ((s + e) / 2 + 1) e).2 + 1)
  else (s, 0)
termination_by e - s
decreasing_by all_goals omega
theorem pm_end {r : Nat → Nat} {l : List Nat} {x s e : Nat} (h : ¬ s < e) : pm r l x s e = (s, 0) := by rw [pm, if_neg h]
theorem pm_yes {r : Nat → Nat} {l : List Nat} {x s e : Nat} (h : s < e) (q : sa r x (gv l ((s + e) / 2)) = true) : pm r l x s e = ((pm r l x s ((s + e) / 2)).1, (pm r l x s ((s + e) / 2)).2 + 1) := by
  conv => lhs; rw [pm, if_pos h, if_pos q]
theorem pm_no {r : Nat → Nat} {l : List Nat} {x s e : Nat} (h : s < e) (q : ¬ sa r x (gv l ((s + e) / 2)) = true) : pm r l x s e = ((pm r l x ((s + e) / 2 + 1) e).1, (pm r l x ((s + e) / 2 + 1) e).2 + 1) := by
  conv => lhs; rw [pm, if_pos h, if_neg q]
theorem pm_asks (r : Nat → Nat) (l : List Nat) (x : Nat) : ∀ (k s e : Nat), e - s = k → s ≤ e → s ≤ (pm r l x s e).1 ∧ (pm r l x s e).1 ≤ e ∧ (pm r l x s e).2 ≤ twos (e - s + 1) := by
  intro k
  induction k using Nat.strongRecOn with
  | ind k ih =>
    intro s e hk hse
    by_cases h : s < e
    · by_cases q : sa r x (gv l ((s + e) / 2)) = true
      · rw [pm_yes h q]
        have := ih ((s + e) / 2 - s) (by omega) s ((s + e) / 2) rfl (by omega)
        have := half_asks h _ (.inl rfl)
        dsimp only
        omega
      · rw [pm_no h q]
        have := ih (e - ((s + e) / 2 + 1)) (by omega) ((s + e) / 2 + 1) e rfl (by omega)
        have := half_asks h _ (.inr rfl)
        dsimp only
        omega
    · rw [pm_end h]; dsimp only; omega
theorem pm_place {r : Nat → Nat} {l : List Nat} {x : Nat} (hl : l.Pairwise (ah r)) (hx : x ∉ l) : ∀ (k s e : Nat), e - s = k → s ≤ e → e ≤ l.length →
    (∀ j, j < s → ah r (gv l j) x) → (∀ j, e ≤ j → j < l.length → ah r x (gv l j)) →
    (∀ j, j < (pm r l x s e).1 → ah r (gv l j) x) ∧ (∀ j, (pm r l x s e).1 ≤ j → j < l.length → ah r x (gv l j)) := by
  intro k
  induction k using Nat.strongRecOn with
  | ind k ih =>
    intro s e hk hse hel h1 h2
    by_cases h : s < e
    · by_cases q : sa r x (gv l ((s + e) / 2)) = true
      · rw [pm_yes h q]
        refine ih ((s + e) / 2 - s) (by omega) s ((s + e) / 2) rfl (by omega) (by omega) h1 fun j hj hjl => ?_
        have q := (sa_iff _ _ _).mp q
        by_cases z : (s + e) / 2 = j
        · subst z; exact q
        · exact ah_trans q (pw_getD hl (by omega) hjl)
      · rw [pm_no h q]
        have hml : (s + e) / 2 < l.length := by omega
        have hne : x ≠ gv l ((s + e) / 2) := fun z => hx (by rw [z]; exact getD_mem hml)
        have q : ah r (gv l ((s + e) / 2)) x := by
          rcases ah_total (r := r) hne with z | z
          · exact absurd ((sa_iff _ _ _).mpr z) q
          · exact z
        refine ih (e - ((s + e) / 2 + 1)) (by omega) ((s + e) / 2 + 1) e rfl (by omega) hel (fun j hj => ?_) h2
        by_cases z : j = (s + e) / 2
        · subst z; exact q
        · exact ah_trans (pw_getD hl (by omega) hml) q
    · rw [pm_end h]
      have : s = e := by omega
      subst this
      exact ⟨h1, h2⟩
def kp (r : Nat → Nat) (l : List Nat) (x : Nat) : List Nat × Nat := (insAt l (pm r l x 0 l.length).1 x, (pm r l x 0 l.length).2)
theorem kp_ok {r : Nat → Nat} {l : List Nat} {x : Nat} (h : l.Pairwise (ah r)) (hx : x ∉ l) : (kp r l x).1.Pairwise (ah r) ∧ (kp r l x).1.Perm (x :: l) ∧ (kp r l x).2 ≤ twos (l.length + 1) ∧ (pm r l x 0 l.length).1 ≤ l.length := by
  obtain ⟨h1, h2⟩ := pm_place h hx l.length 0 l.length rfl (Nat.zero_le _) (Nat.le_refl _) (fun j hj => by omega) (fun j a b => by omega)
  obtain ⟨a1, a2, a3⟩ := pm_asks r l x l.length 0 l.length rfl (Nat.zero_le _)
  refine ⟨insAt_pw h (fun a ha => ?_) (fun b hb => ?_), insAt_perm _ _ _, a3, a2⟩
  · obtain ⟨j, hj, hjl, e⟩ := mem_take_get ha
    have := h1 j hj
    rw [show gv l j = a from e] at this
    exact this
  · obtain ⟨j, hj, hjl, e⟩ := mem_drop_get hb
    have := h2 j hj hjl
    rw [show gv l j = b from e] at this
    exact this
end NM

set_option maxRecDepth 100000
set_option maxHeartbeats 4000000
/-! The walk's ground: facts by names, packages of defs, frames of the heap. -/
namespace NR
open PySem PySem.Spec PyProof.Rows L2

/-! ### what the head tells -/
structure Hd (K : PySem.W.Frag) (mg : Str → Option Value) : Prop where
  says : SaysX K
  inb : ∃ h : Heap, K.In h ∧ h.Ns mainGlobals mg
section
variable {K : PySem.W.Frag} {mg : Str → Option Value}
theorem SaysX.all (c : SaysX K) : (fa.all fun f => f.ok K) = true ∧ (fn.all fun d => d.ok K) = true ∧ exC K = true := by
  have e : ((fa.all fun f => f.ok K) && ((fn.all fun d => d.ok K) && exC K)) = true := congrArg (fun z : AlX => z.1) c
  obtain ⟨h1, h2⟩ := He.ba e
  obtain ⟨h3, h4⟩ := He.ba h2
  exact ⟨h1, h3, h4⟩
theorem Hd.fact (T : Hd K mg) (i : Nat) {f : He.Fa} (h : fa[i]? = some f := by rfl) : f.ok K = true := List.all_eq_true.mp T.says.all.1 f (List.mem_of_getElem? h)
theorem Hd.defD (T : Hd K mg) (i : Nat) {d : He.DefD} (h : fn[i]? = some d) : ∃ fd, FunD K d.name d.qual d.params d.body d.scope (d.dvs K) (d.kws K) (He.fAd K d.at_) fd := by
  have e : fn.map (fun d => He.fnW K d.at_) = fn.map He.DefD.val := congrArg (fun z : AlX => z.2) T.says
  have e2 : (fn.map fun d => He.fnW K d.at_)[i]? = (fn.map He.DefD.val)[i]? := by rw [e]
  rw [List.getElem?_map, List.getElem?_map, h] at e2
  exact He.DefD.funD (Option.some.inj e2) (List.all_eq_true.mp T.says.all.2.1 d (List.mem_of_getElem? h))
theorem Hd.glo (T : Hd K mg) (i : Nat) {x : Str} (h : fa[i]? = some (.glo x)) : mg x = some (.ref (He.ga K x)) := by
  obtain ⟨hh, X, G⟩ := T.inb
  exact He.glo_ok X G (T.fact i h)
theorem Hd.fre (T : Hd K mg) (i : Nat) {x : Str} (h : fa[i]? = some (.free x)) : mg x = none := by
  obtain ⟨hh, X, G⟩ := T.inb
  exact He.free_ok X G (T.fact i h)
theorem Hd.int_ (T : Hd K mg) (i : Nat) {x : Str} {n : Int} (h : fa[i]? = some (.int x n)) : ∃ t, mg x = some (.int n t) := by
  obtain ⟨hh, X, G⟩ := T.inb
  exact He.int_ok X G (T.fact i h)
theorem Hd.str_ (T : Hd K mg) (i : Nat) {x z : Str} (h : fa[i]? = some (.str x z)) : ∃ t, mg x = some (.str z t) := by
  obtain ⟨hh, X, G⟩ := T.inb
  exact He.str_ok X G (T.fact i h)
end

/-! ### packages: a def, a method, a class that is called -/
section
variable (P : Program) (w : World) (K : PySem.W.Frag) (mg : Str → Option Value) (base : Heap)
structure DOk (k : Nat) (x : Str) (ps : List Str) (sp : Sp) : Prop where
  ex : ∃ (f : Addr) (fd : FuncData), FnOk P w K mg base CX0 k f fd ps sp ∧ mg x = some (.ref f) ∧ PySem.W.keepIn K (.ref f) = true ∧ Binds K fd ps []
structure MOk (k : Nat) (C : Addr) (m : Str) (ps : List Str) (sp : Sp) : Prop where
  ex : ∃ (f : Addr) (fd : FuncData), FnOk P w K mg base CX0 k f fd ps sp ∧ Cls K C ∧ Meth K C m f ∧ Binds K fd ps []
structure KOk (k : Nat) (C : Addr) (x : Str) (ps : List Str) (sp : Sp) : Prop where
  ex : ∃ (f : Addr) (fd : FuncData), FnOk P w K mg base CX0 k f fd ps sp ∧ Mk K C f ∧ mg x = some (.ref C) ∧ Binds K fd ps []
/-- a def read off a class, called -/
structure BOk (k : Nat) (x m : Str) (ps : List Str) (sp : Sp) : Prop where
  ex : ∃ (C f : Addr) (fd : FuncData), FnOk P w K mg base CX0 k f fd ps sp ∧ mg x = some (.ref C) ∧ PySem.W.keepIn K (.ref f) = true ∧ Binds K fd ps [] ∧
    ClX.CRead K C (.type "type") ∧ PySem.W.findCls K (.ref C) (.type "type") m = some (.val (.ref f))
end
def tCd (sp : Sp) (t : TA) : TE := fun σ H Q => t σ H fun vs H1 => sp vs H1 Q E0
def tMd (C : Addr) (m : Str) (sp : Sp) (ta : TE) (t : TA) : TE := fun σ H Q => ta σ H fun x H1 => ∃ a dx fs, x = .ref a ∧ H1 a = some (.ins C dx fs) ∧ fs.lookup m = none ∧ t σ H1 fun vs H2 => sp (x :: vs) H2 Q E0
def tMd0 (C : Addr) (m : Str) (sp : Sp) (ta : TE) : TE := fun σ H Q => ta σ H fun x H1 => ∃ a dx fs, x = .ref a ∧ H1 a = some (.ins C dx fs) ∧ fs.lookup m = none ∧ sp [x] H1 Q E0
def tMk (C : Addr) (sp : Sp) (t : TA) : TE := fun σ H Q => t σ H fun vs H1 => ∀ x dx, H1 x = none → H1 dx = none → dx ≠ x → sp (.ref x :: vs) (upd (upd H1 dx (.own x)) x (.ins C dx [])) (fun v H2 => v = .non ∧ Q (.ref x) H2) E0
section
variable {X : Cx} {k : Nat} {x m : Str} {ps : List Str} {sp : Sp} {e o : Expr} {es : List Expr} {t : TA} {ta : TE} {p pos apos : Pos} {C : Addr}
theorem pe_cd (D : DOk X.prog X.w X.K X.mg X.base k x ps sp) (hr : Room k X.A) (ha : PA X (e :: es) t) (hg : Gl X x := by rfl) (hdb : (x == ("__debug__" : Str)) = false := by decide)
    (he : starEach (e :: es) X.env = (false, eval e X.env) :: starEach es X.env := by rfl) (hpl : (backTo pos (starEach es X.env)).any (·.1) = false := by rfl) : PE X (.Call (.Name x p) (e :: es) [] pos) (tCd sp t) := by
  obtain ⟨f, fd, F, hm, hk, hb⟩ := D.ex
  have h := pe_call (p := p) (pos := pos) (E := E0) F hr hg hm hk hb .nil pass0 ha hdb he hpl
  refine ⟨fun pins s σ H Q I q => h.run pins s σ H Q I ?_⟩
  show t σ H fun vs H1 => sp (vs ++ []) H1 Q E0
  simp only [List.append_nil]
  exact q
theorem pe_md {pl : Sem Bool} (M : MOk X.prog X.w X.K X.mg X.base k C m ps sp) (hr : Room k X.A) (ho : PE X o ta) (ha : PA X (e :: es) t)
    (hst : starEach (e :: es) X.env = (false, eval e X.env) :: starEach es X.env := by rfl) (hpl : (backTo pos (starEach es X.env)).any (·.1) = false := by rfl)
    (ht : eval (.Call (.Attribute o m apos) (e :: es) [] pos) X.env = (do
      let ov ← eval o X.env
      standAt apos.atName
      let (f, first) ← holding [ov] (getMethod ov m pl)
      callWith pos f first (backTo pos (starEach (e :: es) X.env)) (backToKw pos (keywordEach [] X.env))) := by rfl) :
    PE X (.Call (.Attribute o m apos) (e :: es) [] pos) (tMd C m sp ta t) := by
  obtain ⟨f, fd, F, hc, hm, hb⟩ := M.ex
  have h := pe_meth (pl := pl) (E := E0) ho hc hm F hr hb .nil pass0 ha hst hpl ht
  refine ⟨fun pins s σ H Q I q => h.run pins s σ H Q I ?_⟩
  show ta σ H fun x H1 => ∃ a dx fs, x = .ref a ∧ H1 a = some (.ins C dx fs) ∧ fs.lookup m = none ∧ t σ H1 fun vs H2 => sp (x :: (vs ++ [])) H2 Q E0
  simp only [List.append_nil]
  exact q
theorem pe_md0 {pl : Sem Bool} (M : MOk X.prog X.w X.K X.mg X.base k C m ps sp) (hr : Room k X.A) (ho : PE X o ta)
    (ht : eval (.Call (.Attribute o m apos) [] [] pos) X.env = (do
      let ov ← eval o X.env
      standAt apos.atName
      let (f, first) ← holding [ov] (getMethod ov m pl)
      callWith pos f first (backTo pos (starEach [] X.env)) (backToKw pos (keywordEach [] X.env))) := by rfl) :
    PE X (.Call (.Attribute o m apos) [] [] pos) (tMd0 C m sp ta) := by
  obtain ⟨f, fd, F, hc, hm, hb⟩ := M.ex
  have h := pe_meth0 (pl := pl) (E := E0) ho hc hm F hr hb .nil pass0 ht
  exact ⟨fun pins s σ H Q I q => h.run pins s σ H Q I q⟩
theorem pe_mk (D : KOk X.prog X.w X.K X.mg X.base k C x ps sp) (hr : Room (k + 1) X.A) (ha : PA X (e :: es) t) (hg : Gl X x := by rfl) (hdb : (x == ("__debug__" : Str)) = false := by decide)
    (he : starEach (e :: es) X.env = (false, eval e X.env) :: starEach es X.env := by rfl) (hpl : (backTo pos (starEach es X.env)).any (·.1) = false := by rfl) : PE X (.Call (.Name x p) (e :: es) [] pos) (tMk C sp t) := by
  obtain ⟨f, fd, F, hM, hm, hb⟩ := D.ex
  have h := pe_make (p := p) (pos := pos) (E := E0) hM F hr hg hm hb .nil pass0 ha hdb he hpl
  refine ⟨fun pins s σ H Q I q => h.run pins s σ H Q I ?_⟩
  show t σ H fun vs H1 => ∀ x dx, H1 x = none → H1 dx = none → dx ≠ x → sp (.ref x :: (vs ++ [])) (upd (upd H1 dx (.own x)) x (.ins C dx [])) (fun v H2 => v = .non ∧ Q (.ref x) H2) E0
  simp only [List.append_nil]
  exact q
/-- C.m(e, ..): m a def of the class -/
theorem pe_base {pl : Sem Bool} (B : BOk X.prog X.w X.K X.mg X.base k x m ps sp) (hr : Room k X.A) (ha : PA X (e :: es) t) (hg : Gl X x := by rfl) (hdb : (x == ("__debug__" : Str)) = false := by decide)
    (hst : starEach (e :: es) X.env = (false, eval e X.env) :: starEach es X.env := by rfl) (hpl : (backTo pos (starEach es X.env)).any (·.1) = false := by rfl)
    (ht : eval (.Call (.Attribute (.Name x p) m apos) (e :: es) [] pos) X.env = (do
      let ov ← eval (.Name x p) X.env
      standAt apos.atName
      let (f, first) ← holding [ov] (getMethod ov m pl)
      callWith pos f first (backTo pos (starEach (e :: es) X.env)) (backToKw pos (keywordEach [] X.env))) := by rfl) :
    PE X (.Call (.Attribute (.Name x p) m apos) (e :: es) [] pos) (tCd sp t) := by
  obtain ⟨C, f, fd, F, hm, hk, hb, hR, hF⟩ := B.ex
  refine ⟨fun pins s σ H Q I q => ?_⟩
  have hn : PE X (.Name x p) (tC (V.ref C)) := pe_glob hg hm (show RelV (V.ref C) (Value.ref C) from rfl) hdb
  refine PySem.W.methodCall_KW (pl := pl) (thn (hn.run pins s σ H (fun v H1 => v = .ref C ∧ H1 = H) I ⟨rfl, rfl⟩) fun u s1 ⟨v, H1, I1, rv, ev, eH⟩ => ?_) ht
  subst ev eH
  obtain rfl : u = Value.ref C := rv
  refine PySem.W.method_cls I1.kIn hR.ga (PySem.W.cls_value I1.kIn hR.rd hF (handed_of (show RelV (V.ref f) (Value.ref f) from rfl)) ?_)
  refine PySem.W.callWith_K (first := []) (h₀ := X.base) I.ok.mod.kin hk (thn (ha.run pos pins _ σ H1 _ (I1.tok _) q) fun us s2 ⟨vs, H2, I2, r, q2⟩ => ⟨I2.kIn, ?_⟩) hst hpl
  exact run_fn (dvs := []) (E := E0) F hr hb .nil pass0 I2 r (by rw [List.append_nil]; exact q2)
end

/-! ### a def of the text, its body shown -/
section
variable {P : Program} {w : World} {K : PySem.W.Frag} {mg : Str → Option Value} {base : Heap}
abbrev BodyOk (P : Program) (w : World) (K : PySem.W.Frag) (mg : Str → Option Value) (base : Heap) (N : List Str) (qual : Str) (st : Stmt) (f : Addr) (k : Nat) (sp : Sp) : Prop :=
  ∀ (cdv : Value) (A : Around) (outer : List Env) (s : Shared) (H : Hp) (vs : List V) (Q : VK) (E : XK), Room k (A.deeper (envOfC qual (defScope st) s.heap.objs.size f cdv)) → sp vs H Q E →
    ∃ t, PSs (cxOf CX0 P w K mg base N qual (defScope st) f cdv A outer s H E).nox (defBody st) t ∧ t { nx := fun _ H' => Q .non H', rt := Q } (start N vs) H
abbrev BindOk (x qual : Str) (st : Stmt) (ps : List Str) : Prop :=
  ∀ (kV doc pm : Value) (an : Option Addr) (cdv ct : Value) (us : List Value), us.length = ps.length → bindArgs (PySem.W.fnOf x qual (defArgs st) (defBody st) (defScope st) .none kV doc pm an cdv ct) ⟨us, []⟩ = pure (ps.zip us)
theorem fnOk_of {x qual : Str} {st : Stmt} {f : Addr} {fd : FuncData} {N ps : List Str} {k : Nat} {sp : Sp} (F : FunD K x qual (defArgs st) (defBody st) (defScope st) [] [] f fd) (S : FnScope N ps (defScope st))
    (len : ∀ vs H Q E, sp vs H Q E → vs.length = ps.length) (hb : BodyOk P w K mg base N qual st f k sp) : FnOk P w K mg base CX0 (k + 1) f fd ps sp :=
  F.ok S len fun cdv A outer s H vs Q E hr h => by
    obtain ⟨t, h1, h2⟩ := hb cdv A outer s H vs Q E hr h
    exact ⟨t, h1.nox, h2⟩
theorem mkD (T : Hd K mg) {x : Str} {st : Stmt} {N ps : List Str} {k : Nat} {sp : Sp} (i j : Nat) (hd : fn[i]? = some ⟨(x, none), x, x, defArgs st, defBody st, defScope st, [], []⟩) (hg : fa[j]? = some (.glo x))
    (S : FnScope N ps (defScope st)) (bi : BindOk x x st ps) (len : ∀ vs H Q E, sp vs H Q E → vs.length = ps.length) (hb : BodyOk P w K mg base N x st (He.ga K x) k sp) : DOk P w K mg base (k + 1) x ps sp := by
  obtain ⟨fd, F⟩ := T.defD i hd
  have F : FunD K x x (defArgs st) (defBody st) (defScope st) [] [] (He.ga K x) fd := F
  exact ⟨He.ga K x, fd, fnOk_of F S len hb, T.glo j hg, F.kp, F.bindsN bi⟩
/-- a method of the class c -/
theorem mkM (T : Hd K mg) {c m qual : Str} {st : Stmt} {N ps : List Str} {k : Nat} {sp : Sp} (i j l : Nat) (hd : fn[i]? = some ⟨(c, some m), m, qual, defArgs st, defBody st, defScope st, [], []⟩) (hc : fa[j]? = some (.cls c)) (hm : fa[l]? = some (.meth c m))
    (S : FnScope N ps (defScope st)) (bi : BindOk m qual st ps) (len : ∀ vs H Q E, sp vs H Q E → vs.length = ps.length) (hb : BodyOk P w K mg base N qual st (He.ma K (He.ga K c) m) k sp) : MOk P w K mg base (k + 1) (He.ga K c) m ps sp := by
  obtain ⟨fd, F⟩ := T.defD i hd
  have F : FunD K m qual (defArgs st) (defBody st) (defScope st) [] [] (He.ma K (He.ga K c) m) fd := F
  exact ⟨He.ma K (He.ga K c) m, fd, fnOk_of F S len hb, He.cls_ok (T.fact j hc), He.meth_ok (T.fact l hm), F.bindsN bi⟩
theorem mkK (T : Hd K mg) {c qual : Str} {st : Stmt} {N ps : List Str} {k : Nat} {sp : Sp} (i j l : Nat) (hd : fn[i]? = some ⟨(c, some "__init__"), "__init__", qual, defArgs st, defBody st, defScope st, [], []⟩) (hc : fa[j]? = some (.glo c)) (hm : fa[l]? = some (.mkr c))
    (S : FnScope N ps (defScope st)) (bi : BindOk "__init__" qual st ps) (len : ∀ vs H Q E, sp vs H Q E → vs.length = ps.length) (hb : BodyOk P w K mg base N qual st (He.ma K (He.ga K c) "__init__") k sp) : KOk P w K mg base (k + 1) (He.ga K c) c ps sp := by
  obtain ⟨fd, F⟩ := T.defD i hd
  have F : FunD K "__init__" qual (defArgs st) (defBody st) (defScope st) [] [] (He.ma K (He.ga K c) "__init__") fd := F
  exact ⟨_, fd, fnOk_of F S len hb, He.mkr_ok (T.fact l hm), T.glo j hc, F.bindsN bi⟩
end
end NR

set_option maxRecDepth 100000
set_option maxHeartbeats 4000000
/-! Facts by names; rules of my own; frames; lines. -/
namespace NR
open PySem PySem.Spec PyProof.Rows L2 NM
section
variable {K : PySem.W.Frag} {mg : Str → Option Value}
theorem Hd.f_isinstance (T : Hd K mg) : mg "isinstance" = none := T.fre 66 rfl
theorem Hd.f_all (T : Hd K mg) : mg "all" = none := T.fre 67 rfl
theorem Hd.f_len (T : Hd K mg) : mg "len" = none := T.fre 68 rfl
theorem Hd.f_min (T : Hd K mg) : mg "min" = none := T.fre 69 rfl
theorem Hd.f_max (T : Hd K mg) : mg "max" = none := T.fre 70 rfl
theorem Hd.f_range (T : Hd K mg) : mg "range" = none := T.fre 71 rfl
theorem Hd.f_sorted (T : Hd K mg) : mg "sorted" = none := T.fre 72 rfl
theorem Hd.f_sum (T : Hd K mg) : mg "sum" = none := T.fre 73 rfl
theorem Hd.f_tuple (T : Hd K mg) : mg "tuple" = none := T.fre 74 rfl
theorem Hd.f_list (T : Hd K mg) : mg "list" = none := T.fre 75 rfl
theorem Hd.f_int (T : Hd K mg) : mg "int" = none := T.fre 76 rfl
theorem Hd.f_zip (T : Hd K mg) : mg "zip" = none := T.fre 77 rfl
theorem Hd.f_enumerate (T : Hd K mg) : mg "enumerate" = none := T.fre 78 rfl
theorem Hd.f_reversed (T : Hd K mg) : mg "reversed" = none := T.fre 79 rfl
theorem Hd.f_any (T : Hd K mg) : mg "any" = none := T.fre 80 rfl
theorem Hd.f_bool (T : Hd K mg) : mg "bool" = none := T.fre 81 rfl
theorem Hd.f_str (T : Hd K mg) : mg "str" = none := T.fre 82 rfl
theorem Hd.i_MOST_THINGS (T : Hd K mg) : ∃ t, mg "MOST_THINGS" = some (.int 60 t) := T.int_ 83 rfl
theorem Hd.i_MOST_LINES (T : Hd K mg) : ∃ t, mg "MOST_LINES" = some (.int 60 t) := T.int_ 84 rfl
theorem Hd.s_LETTERS (T : Hd K mg) : ∃ t, mg "LETTERS" = some (.str "abcdefghijklmnopqrstuvwxyz" t) := T.str_ 85 rfl
theorem Hd.c_Asker (T : Hd K mg) : Cls K (He.ga K "Asker") := He.cls_ok (T.fact 86 rfl)
theorem Hd.n_Asker_size (T : Hd K mg) : NoAttr K (He.ga K "Asker") "size" := He.noat_ok (T.fact 88 rfl)
theorem Hd.n_Asker_limit (T : Hd K mg) : NoAttr K (He.ga K "Asker") "limit" := He.noat_ok (T.fact 89 rfl)
theorem Hd.n_Asker_asks (T : Hd K mg) : NoAttr K (He.ga K "Asker") "asks" := He.noat_ok (T.fact 90 rfl)
theorem Hd.n_Asker_row (T : Hd K mg) : NoAttr K (He.ga K "Asker") "row" := He.noat_ok (T.fact 91 rfl)
theorem Hd.n_Asker_columns (T : Hd K mg) : NoAttr K (He.ga K "Asker") "columns" := He.noat_ok (T.fact 92 rfl)
theorem Hd.c_Heap (T : Hd K mg) : Cls K (He.ga K "Heap") := He.cls_ok (T.fact 98 rfl)
theorem Hd.n_Heap_asker (T : Hd K mg) : NoAttr K (He.ga K "Heap") "asker" := He.noat_ok (T.fact 100 rfl)
theorem Hd.n_Heap_tree (T : Hd K mg) : NoAttr K (He.ga K "Heap") "tree" := He.noat_ok (T.fact 101 rfl)
theorem Hd.c_Kept (T : Hd K mg) : Cls K (He.ga K "Kept") := He.cls_ok (T.fact 107 rfl)
theorem Hd.n_Kept_asker (T : Hd K mg) : NoAttr K (He.ga K "Kept") "asker" := He.noat_ok (T.fact 109 rfl)
theorem Hd.n_Kept_numbers (T : Hd K mg) : NoAttr K (He.ga K "Kept") "numbers" := He.noat_ok (T.fact 110 rfl)
theorem Hd.n_Kept_deeds (T : Hd K mg) : NoAttr K (He.ga K "Kept") "deeds" := He.noat_ok (T.fact 111 rfl)
theorem Hd.c_Meetings (T : Hd K mg) : Cls K (He.ga K "Meetings") := He.cls_ok (T.fact 114 rfl)
theorem Hd.n_Meetings_asker (T : Hd K mg) : NoAttr K (He.ga K "Meetings") "asker" := He.noat_ok (T.fact 116 rfl)
theorem Hd.n_Meetings_lines (T : Hd K mg) : NoAttr K (He.ga K "Meetings") "lines" := He.noat_ok (T.fact 117 rfl)
theorem Hd.n_Meetings_backwards (T : Hd K mg) : NoAttr K (He.ga K "Meetings") "backwards" := He.noat_ok (T.fact 118 rfl)
theorem Hd.n_Meetings_gone (T : Hd K mg) : NoAttr K (He.ga K "Meetings") "gone" := He.noat_ok (T.fact 119 rfl)
theorem Hd.n_Meetings_sent (T : Hd K mg) : NoAttr K (He.ga K "Meetings") "sent" := He.noat_ok (T.fact 120 rfl)
theorem Hd.n_Meetings_latest (T : Hd K mg) : NoAttr K (He.ga K "Meetings") "latest" := He.noat_ok (T.fact 121 rfl)
theorem Hd.c_Shelf (T : Hd K mg) : Cls K (He.ga K "Shelf") := He.cls_ok (T.fact 126 rfl)
theorem Hd.n_Shelf_stood (T : Hd K mg) : NoAttr K (He.ga K "Shelf") "stood" := He.noat_ok (T.fact 128 rfl)
theorem Hd.g_Noted (T : Hd K mg) : mg "Noted" = some (.ref (He.ga K "Noted")) := T.glo 60 rfl
end
section
variable {X : Cx}
theorem pe_gint {x : Str} {n : Int} {pos : Pos} (hm : ∃ t, X.mg x = some (.int n t)) (hg : Gl X x := by rfl) (hd : (x == ("__debug__" : Str)) = false := by decide) : PE X (.Name x pos) (tC (.int n)) := by
  obtain ⟨t, h⟩ := hm
  exact pe_glob (v := .int n) hg h ⟨t, rfl⟩ hd
theorem pe_gstr {x z : Str} {pos : Pos} (hm : ∃ t, X.mg x = some (.str z t)) (hg : Gl X x := by rfl) (hd : (x == ("__debug__" : Str)) = false := by decide) : PE X (.Name x pos) (tC (.str z)) := by
  obtain ⟨t, h⟩ := hm
  exact pe_glob (v := .str z) hg h ⟨t, rfl⟩ hd
/-- the lesser of two ints, of two texts -/
theorem op_ltK : OpR X (compareOp .Lt) (fun x y H Q => (rI0 fun i j => .bl (decide (i < j))) x y H Q ∨ (fun x y H Q => ∃ i j : Str, x = .str i ∧ y = .str j ∧ Q (.bl (decide (i.cps.toList < j.cps.toList))) H) x y H Q) := OpR.or op_lt op_lt_str
/-- xs[i] of a list, ahead of a store -/
theorem getL : PGet X (fun o i H Q => ∃ (p : Addr) (xs : List V) (j : Nat) (v : V), o = .ref p ∧ i = .int (j : Int) ∧ SqL X.K H p xs ∧ xs[j]? = some v ∧ Q v H) := by
  intro pins s σ H o i ov iv Q I ro ri h
  obtain ⟨p, xs, j, v, rfl, rfl, hq, he, q⟩ := h
  cases ro
  obtain ⟨t, rfl⟩ := ri
  obtain ⟨its, r, pl, hz⟩ := I.list hq
  obtain ⟨w, ew, rw'⟩ := r.get he
  have hl := r.length
  have hn := line63
  have hj := (List.getElem?_eq_some_iff.mp he).1
  exact wpAny_getItem_list pl.isList (by omega) (by omega) (by simpa using ew) ⟨v, H, I, rw', q⟩
end
section
variable {X : Cx} {K : PySem.W.Frag}
theorem op_in_seqK (h : X.K = K := by rfl) : OpR X (compareOp .In) (rIn K false) := by subst h; exact op_in_seq
theorem op_notIn_seqK (h : X.K = K := by rfl) : OpR X (compareOp .NotIn) (rIn K true) := by subst h; exact op_notIn_seq
theorem ix_listK (h : X.K = K := by rfl) : IxR X (rIxL K) := by subst h; exact ix_list
theorem ix_tupK (h : X.K = K := by rfl) : IxR X (rIxT K) := by subst h; exact ix_tup
theorem pe_fldK {e : Expr} {ta : TE} {f : Str} {pos : Pos} (he : PE X e ta) (hb : attributeBase e f X.env (eval e X.env) = eval e X.env) (h : X.K = K := by rfl) : PE X (.Attribute e f pos) (tFld K ta f) := by subst h; exact pe_fld he hb
theorem call_len_seqK (h : X.K = K := by rfl) : CallR X (.builtin "len") (fun xs H Q => ∃ p ys, xs = [.ref p] ∧ (SqL K H p ys ∨ SqT K H p ys) ∧ Q (.int ys.length) H) := by subst h; exact call_len_seq
theorem call_isiK (h : X.K = K := by rfl) : CallR X (.builtin "isinstance") (rIsi K) := by subst h; exact call_isi
end
/-! ### tests -/
theorem itD {p : Prop} [Decidable p] {A B : Prop} (h1 : p → A) (h2 : ¬ p → B) : if decide p = true then A else B := by
  by_cases h : p
  · rw [decide_eq_true h]; exact iteT (h1 h)
  · rw [decide_eq_false h]; exact iteF (h2 h)
theorem itN {p : Prop} [Decidable p] {A B : Prop} (h1 : ¬ p → A) (h2 : p → B) : if (!decide p) = true then A else B := by
  by_cases h : p
  · rw [decide_eq_true h]; exact iteF (h2 h)
  · rw [decide_eq_false h]; exact iteT (h1 h)
theorem itB {b : Bool} {A B : Prop} (h1 : b = true → A) (h2 : b = false → B) : if b = true then A else B := by
  cases b
  · exact iteF (h2 rfl)
  · exact iteT (h1 rfl)
/-! ### frames: all but what stands at xs is as it was; tuples stay -/
structure Fr (xs : List Addr) (H H' : Hp) : Prop where
  keep : ∀ b o, b ∉ xs → H b = some o → H' b = some o
  tup : ∀ b ys, H b = some (.tup ys) → H' b = some (.tup ys)
theorem Fr.refl (xs : List Addr) (H : Hp) : Fr xs H H := ⟨fun _ _ _ h => h, fun _ _ h => h⟩
theorem Fr.trans {xs : List Addr} {H H1 H2 : Hp} (a : Fr xs H H1) (b : Fr xs H1 H2) : Fr xs H H2 := ⟨fun c o n h => b.keep c o n (a.keep c o n h), fun c o h => b.tup c o (a.tup c o h)⟩
theorem Fr.mono {xs ys : List Addr} {H H' : Hp} (a : Fr xs H H') (h : ∀ b, b ∈ xs → b ∈ ys) : Fr ys H H' := ⟨fun c o n e => a.keep c o (fun m => n (h c m)) e, a.tup⟩
theorem Fr.new {xs : List Addr} {H : Hp} {p : Addr} {o : HO} (h : H p = none) : Fr xs H (upd H p o) :=
  ⟨fun b u _ e => by rw [upd_ne (ne_of_none e h)]; exact e, fun b u e => by rw [upd_ne (ne_of_none e h)]; exact e⟩
def notT : HO → Bool
  | .tup _ => false
  | _ => true
theorem Fr.put {xs : List Addr} {H : Hp} {p : Addr} {o u : HO} (hp : p ∈ xs) (h : H p = some u) (hu : notT u = true) : Fr xs H (upd H p o) :=
  ⟨fun b v n e => by rw [upd_ne (fun z => n (by rw [z]; exact hp))]; exact e, fun b ys e => by
    rw [upd_ne (fun z => by
      subst z
      rw [h] at e
      injection e with e
      subst e
      cases hu)]
    exact e⟩
/-- what is new in between may be changed -/
theorem Fr.fresh {xs : List Addr} {H H' : Hp} {p : Addr} {o : HO} (a : Fr xs H H') (h : H p = none) : Fr xs H (upd H' p o) :=
  ⟨fun b u n e => by rw [upd_ne (ne_of_none e h)]; exact a.keep b u n e, fun b u e => by rw [upd_ne (ne_of_none e h)]; exact a.tup b u e⟩
theorem Fr.drop {xs ys : List Addr} {H H' : Hp} (a : Fr xs H H') (h : ∀ b, b ∈ xs → b ∈ ys ∨ H b = none) : Fr ys H H' :=
  ⟨fun b o n e => a.keep b o (fun m => by
    rcases h b m with z | z
    · exact n z
    · rw [z] at e; cases e) e, a.tup⟩
theorem Fr.none {xs : List Addr} {H H' : Hp} (a : Fr xs H H') {p : Addr} (hp : p ∉ xs) (h : H' p = none) : H p = none := by
  cases e : H p with
  | none => rfl
  | some o => rw [a.keep p o hp e] at h; cases h
theorem Fr.same {H H' : Hp} (a : Fr [] H H') : Same H H' := fun b o h => a.keep b o (by simp) h
theorem Fr.ofSame {H H' : Hp} (a : Same H H') : Fr [] H H' := ⟨fun b o _ h => a b o h, fun b ys h => a b _ h⟩
theorem Fr.rdL {K : PySem.W.Frag} {H H' : Hp} {b : Addr} {xs : List V} (a : Fr [] H H') (h : SqL K H b xs) : SqL K H' b xs := Same.seq a.same h
/-! ### numbers, lines -/
abbrev vI (n : Nat) : V := .int (n : Int)
def vL (l : List Nat) : List V := l.map vI
theorem vL_get {l : List Nat} {i : Nat} (h : i < l.length) : (vL l)[i]? = some (vI (l.getD i 0)) := by
  unfold vL
  rw [List.getElem?_map, List.getElem?_eq_getElem h, getD_get h]; rfl
theorem vL_length (l : List Nat) : (vL l).length = l.length := by unfold vL; rw [List.length_map]
theorem vL_at {l : List Nat} {i : Nat} (h : i < l.length) : atI (vL l) (i : Int) = some (vI (l.getD i 0)) := atI_nat (vL_get h)
theorem vL_ints (l : List Nat) : vL l = (l.map fun n : Nat => (n : Int)).map V.int := by unfold vL; rw [List.map_map]; rfl
theorem sz_small {n : Nat} (h : n ≤ 100000) : n ≤ sizeLine := Nat.le_trans h (by decide)
theorem sz_lt {n : Nat} (h : n < 100000) : n < sizeLine := Nat.lt_of_lt_of_le h (by decide)
end NR

set_option maxRecDepth 100000
set_option maxHeartbeats 4000000
/-! Things, rows, orders. -/
namespace NR
open PySem PySem.Spec PyProof.Rows L2 NM
def letters : Str := "abcdefghijklmnopqrstuvwxyz"
/-- a key as the program has it -/
def KeyOk : Key → Prop
  | .inl i => -1000000000 < i ∧ i < 1000000000
  | .inr z => 1 ≤ z.length ∧ z.length ≤ 8 ∧ ∀ c ∈ z.cps.toList, c ∈ letters.cps.toList
abbrev Thing := List Key
def ThingOk (t : Thing) : Prop := 1 ≤ t.length ∧ t.length ≤ 4 ∧ ∀ k ∈ t, KeyOk k
/-- a thing, a row of things, as they stand -/
def ThAt (H : Hp) (x : V) (t : Thing) : Prop := ∃ a, x = .ref a ∧ H a = some (.tup (t.map kV))
def RowAt (H : Hp) (r : Addr) (rows : List Thing) : Prop := ∃ xs : List V, H r = some (.tup xs) ∧ xs.length = rows.length ∧ ∀ (i : Nat) (x : V) (t : Thing), xs[i]? = some x → rows[i]? = some t → ThAt H x t
theorem ThAt.keep {ys : List Addr} {H H' : Hp} {x : V} {t : Thing} (h : ThAt H x t) (f : Fr ys H H') : ThAt H' x t := by
  obtain ⟨a, e, q⟩ := h
  exact ⟨a, e, f.tup a _ q⟩
theorem RowAt.keep {ys : List Addr} {H H' : Hp} {r : Addr} {rows : List Thing} (h : RowAt H r rows) (f : Fr ys H H') : RowAt H' r rows := by
  obtain ⟨xs, e, l, q⟩ := h
  exact ⟨xs, f.tup r _ e, l, fun i x t h1 h2 => (q i x t h1 h2).keep f⟩
theorem RowAt.get {H : Hp} {r : Addr} {rows : List Thing} (h : RowAt H r rows) {i : Nat} {t : Thing} (hi : rows[i]? = some t) : ∃ xs x, H r = some (.tup xs) ∧ xs[i]? = some x ∧ ThAt H x t := by
  obtain ⟨xs, e, l, q⟩ := h
  have hl := (List.getElem?_eq_some_iff.mp hi).1
  have hx : xs[i]? = some (xs[i]'(by omega)) := List.getElem?_eq_getElem (by omega)
  exact ⟨xs, _, e, hx, q i _ t hx hi⟩
/-! ### promises -/
def spIsWhole : Sp := fun vs H Q _ => ∃ x : V, vs = [x] ∧ (((∃ i, x = .int i) ∧ Q (.bl true) H) ∨ ((∃ z, x = .str z) ∧ Q (.bl false) H))
def spIsKey : Sp := fun vs H Q _ => ∃ k : Key, vs = [kV k] ∧ KeyOk k ∧ ∀ H', Fr [] H H' → Q (.bl true) H'
def spIsThing : Sp := fun vs H Q _ => ∃ (a : Addr) (t : Thing), vs = [.ref a] ∧ H a = some (.tup (t.map kV)) ∧ ThingOk t ∧ ∀ H', Fr [] H H' → Q (.bl true) H'
def spIsRow : Sp := fun vs H Q _ => ∃ (r : Addr) (rows : List Thing), vs = [.ref r] ∧ RowAt H r rows ∧ rows.length ≤ 60 ∧ (∀ t ∈ rows, ThingOk t) ∧ ∀ H', Fr [] H H' → Q (.bl true) H'
section
variable {P : Program} {w : World} {K : PySem.W.Frag} {mg : Str → Option Value} {base : Heap}
theorem kb_ii : kitB "int" "int" = some true := by decide +kernel
theorem kb_ib : kitB "int" "bool" = some false := by decide +kernel
theorem kb_is : kitB "int" "str" = some false := by decide +kernel
theorem kb_si : kitB "str" "int" = some false := by decide +kernel
theorem kb_ss : kitB "str" "str" = some true := by decide +kernel
theorem kb_tt : kitB "tuple" "tuple" = some true := by decide +kernel
theorem sc_is_whole : FnScope ["x"] ["x"] (defScope s_is_whole) := ⟨rfl, rfl, rfl, by decide +kernel, rfl, by decide +kernel, by decide +kernel⟩
theorem ok_is_whole (T : Hd K mg) : DOk P w K mg base 1 "is_whole" ["x"] spIsWhole := by
  refine mkD T 0 0 rfl rfl sc_is_whole (fun _ _ _ _ _ _ us hl => match us, hl with | [_], _ => rfl) (fun vs H Q E h => ?_) (fun cdv A outer s H vs Q E hr h => ?_)
  · obtain ⟨x, rfl, _⟩ := h; rfl
  · obtain ⟨x, rfl, h⟩ := h
    refine ⟨_, (pss_one (ps_ret (pe_and (pe_callB call_isi (by rfl) T.f_isinstance (by decide +kernel) (pa_cons (pv 0) (pa_cons (pe_bltn (v := .ty "int") rfl T.f_int (by decide +kernel) rfl) pa_nil))) (pe_one (pe_not (pe_callB call_isi (by rfl) T.f_isinstance (by decide +kernel) (pa_cons (pv 0) (pa_cons (pe_bltn (v := .ty "bool") rfl T.f_bool (by decide +kernel) rfl) pa_nil)))))))), ?_⟩
    rcases h with ⟨⟨i, rfl⟩, q⟩ | ⟨⟨z, rfl⟩, q⟩
    · exact ⟨_, rfl, _, _, _, _, true, rfl, .ty "int", .base (.int i), kb_ii, true, rfl, iteT ⟨_, rfl, _, _, _, _, false, rfl, .ty "bool", .base (.int i), kb_ib, false, rfl, q⟩⟩
    · exact ⟨_, rfl, _, _, _, _, false, rfl, .ty "int", .base (.str z), kb_si, false, rfl, iteF q⟩
theorem chain_lt {a b c : Int} (h1 : a < b) (h2 : b < c) : a < b ∧ b < c := ⟨h1, h2⟩
/-- all(..) over signs or keys: the list of truths that the comprehension makes -/
theorem all_true {n : Nat} : (List.replicate n true).all id = true := by simp
theorem rep_map (n : Nat) : List.replicate n (V.bl true) = (List.replicate n true).map V.bl := by simp
theorem rep_succ (n : Nat) : List.replicate n (V.bl true) ++ [V.bl true] = List.replicate (n + 1) (V.bl true) := by rw [List.replicate_succ']
theorem rall {H : Hp} {Q : VK} {D : Addr} {n : Nat} (h : H D = some (.lst (List.replicate n (V.bl true)))) (q : Q (.bl true) H) : rAll K [.ref D] H Q :=
  ⟨D, List.replicate n true, rfl, by rw [← rep_map]; exact SqL.of h, by rw [all_true]; exact q⟩
theorem sc_is_key : FnScope ["x", "sign"] ["x"] (defScope s_is_key) := ⟨rfl, rfl, rfl, by decide +kernel, rfl, by decide +kernel, by decide +kernel⟩
theorem ok_is_key (T : Hd K mg) : DOk P w K mg base 2 "is_key" ["x"] spIsKey := by
  refine mkD T 1 1 rfl rfl sc_is_key (fun _ _ _ _ _ _ us hl => match us, hl with | [_], _ => rfl) (fun vs H Q E h => ?_) (fun cdv A outer s H vs Q E hr h => ?_)
  · obtain ⟨k, rfl, _⟩ := h; rfl
  · obtain ⟨k, rfl, hk, q⟩ := h
    refine ⟨_, (pss_cons (ps_if (pt_val (pe_cd (ok_is_whole T) (hr.mono (by decide)) (pa_cons (pv 0) pa_nil)))
        (pss_one (ps_ret (pe_chain op_lt op_lt (pe_un un_neg pe_int) (pv 0) pe_int)))
        pss_nil)
      (pss_cons (ps_if (PW.pt (pw_or (pt_not (pt_val (pe_callB call_isi (by rfl) T.f_isinstance (by decide +kernel) (pa_cons (pv 0) (pa_cons (pe_bltn (v := .ty "str") rfl T.f_str (by decide +kernel) rfl) pa_nil))))) (pw_or1 (pt_not (pt_chain op_le op_le pe_int (pe_callB call_len_str (by rfl) T.f_len (by decide +kernel) (pa_cons (pv 0) pa_nil)) pe_int)))))
        (pss_one (ps_ret pe_bl))
        pss_nil)
      (pss_one (ps_ret (pe_callB (cr_all rfl) (by rfl) T.f_all (by decide +kernel) (pa_cons (pe_lc (own := [("sign", 1)]) (g := gName 1) (tt := tYes) rfl sc_is_key.nd (pi_str (pv 0)) (blkOk_by (own := [("sign", 1)]) (N := ["x", "sign"]) (sc := defScope s_is_key) (by decide +kernel)) (fun _ _ _ _ _ => (pg_name (i := 1) sc_is_key.nd rfl (Or.inl rfl))) (fun _ _ _ _ _ => pts_nil) (fun _ _ _ _ _ => (pe_cmpR op_in_sign (pv 1) (pe_gstr T.s_LETTERS) rfl))) pa_nil)))))), ?_⟩
    cases k with
    | inl i =>
      refine ⟨_, rfl, _, rfl, .inl ⟨⟨i, rfl⟩, true, rfl, iteT ?_⟩⟩
      refine ⟨_, rfl, _, rfl, _, i, rfl, rfl, _, rfl, ?_⟩
      refine itD (fun _ => ?_) (fun n => absurd hk.1 n)
      refine ⟨i, _, rfl, rfl, ?_⟩
      show Q (.bl (decide (i < 1000000000))) _
      rw [decide_eq_true hk.2]
      exact q _ (Fr.refl _ _)
    | inr z =>
      obtain ⟨h1, h2, h3⟩ := hk
      have hz : z.length ≤ sizeLine := sz_small (by omega)
      refine ⟨_, rfl, _, rfl, .inr ⟨⟨z, rfl⟩, false, rfl, iteF ?_⟩⟩
      refine ⟨_, rfl, _, _, _, _, true, rfl, .ty "str", .base (.str z), kb_ss, true, rfl, iteF ?_⟩
      refine ⟨_, rfl, z, rfl, hz, _, _, rfl, rfl, _, rfl, ?_⟩
      refine itD (fun _ => ?_) (fun n => absurd (by omega) n)
      refine ⟨_, _, rfl, rfl, _, rfl, ?_⟩
      rw [decide_eq_true (show ((z.length : Nat) : Int) ≤ 8 by omega)]
      refine iteF ?_
      refine ⟨_, rfl, z, rfl, fun D hD => lc_it walk_str (fun i H' => Fr [] H H' ∧ H' D = some (.lst (List.replicate i (V.bl true)))) ⟨(Fr.refl _ _).fresh hD, upd_same⟩ (fun _ _ _ _ => trivial) ?_ ?_⟩
      · rintro i x H1 H2 hi ⟨f, hl⟩ ⟨rfl, c, hc, rfl⟩
        refine ⟨rfl, ?_⟩
        refine ⟨_, rfl, c, _, rfl, rfl, _, hl, by rw [List.length_replicate]; exact sz_lt (show i < 100000 from Nat.lt_of_lt_of_le hi (by show z.length ≤ 100000; omega)), (f.fresh hD), ?_⟩
        rw [upd_same, ← rep_succ]
        have hm : c ∈ letters.cps.toList := h3 c (by
          have := Array.mem_of_getElem? hc
          exact Array.mem_def.mp this)
        have : decide (c ∈ (Str.ofString "abcdefghijklmnopqrstuvwxyz").cps.toList) = true := decide_eq_true hm
        rw [this]
      · rintro H1 ⟨f, hl⟩
        refine ⟨D, List.replicate z.cps.size true, rfl, by rw [← rep_map]; exact SqL.of hl, ?_⟩
        rw [all_true]
        exact q _ f
end
end NR

set_option maxRecDepth 100000
set_option maxHeartbeats 4000000
/-! Things, rows, orders, further. -/
namespace NR
open PySem PySem.Spec PyProof.Rows L2 NM
theorem map_get {α β : Type} {f : α → β} {l : List α} {i : Nat} {x : β} (h : (l.map f)[i]? = some x) : ∃ a, l[i]? = some a ∧ x = f a := by
  rw [List.getElem?_map] at h
  cases e : l[i]? with
  | none => rw [e] at h; cases h
  | some a => rw [e] at h; exact ⟨a, rfl, (Option.some.inj h).symm⟩
/-! ### orders -/
abbrev Order := List (Nat × Bool)
def wayS (b : Bool) : Str := if b = true then "up" else "down"
def PartAt (H : Hp) (x : V) (p : Nat × Bool) : Prop := ∃ a, x = .ref a ∧ H a = some (.tup [vI p.1, .str (wayS p.2)])
def OrdAt (H : Hp) (o : Addr) (ord : Order) : Prop := ∃ xs : List V, H o = some (.tup xs) ∧ xs.length = ord.length ∧ ∀ (i : Nat) (x : V) (p : Nat × Bool), xs[i]? = some x → ord[i]? = some p → PartAt H x p
theorem PartAt.keep {ys : List Addr} {H H' : Hp} {x : V} {p : Nat × Bool} (h : PartAt H x p) (f : Fr ys H H') : PartAt H' x p := by
  obtain ⟨a, e, q⟩ := h
  exact ⟨a, e, f.tup a _ q⟩
theorem OrdAt.keep {ys : List Addr} {H H' : Hp} {o : Addr} {ord : Order} (h : OrdAt H o ord) (f : Fr ys H H') : OrdAt H' o ord := by
  obtain ⟨xs, e, l, q⟩ := h
  exact ⟨xs, f.tup o _ e, l, fun i x p h1 h2 => (q i x p h1 h2).keep f⟩
structure OrdOk (ord : Order) : Prop where
  l1 : 1 ≤ ord.length
  l4 : ord.length ≤ 4
  col : ∀ p ∈ ord, 1 ≤ p.1 ∧ p.1 ≤ 4
  nd : (ord.map (·.1)).Nodup
theorem up_down : inV (.str "up") [.str "up", .str "down"] = true ∧ inV (.str "down") [.str "up", .str "down"] = true := by decide +kernel
theorem way_in (b : Bool) : inV (.str (wayS b)) [.str "up", .str "down"] = true := by
  cases b
  · exact up_down.2
  · exact up_down.1
theorem inV_int {c : Nat} {cs : List Nat} (h : c ∉ cs) : inV (vI c) (vL cs) = false := by
  unfold inV vL
  rw [List.any_map, List.any_eq_false]
  intro x hx he
  have e : ((x : Int) == (c : Int)) = true := he
  have := eq_of_beq e
  exact h (by rw [← Int.ofNat.inj this]; exact hx)
theorem inV_mem {c : Nat} {cs : List Nat} (h : c ∈ cs) : inV (vI c) (vL cs) = true := by
  unfold inV vL
  rw [List.any_map, List.any_eq_true]
  exact ⟨c, h, (show ((c : Int) == (c : Int)) = true from beq_self_eq_true _)⟩
theorem vL_flat (l : List Nat) : (vL l).all flatV = true := by
  unfold vL
  rw [List.all_map, List.all_eq_true]
  intro _ _; rfl
/-! ### what compared reckons -/
def ltK : Key → Key → Option Bool
  | .inl i, .inl j => some (decide (i < j))
  | .inr x, .inr y => some (decide (x.cps.toList < y.cps.toList))
  | _, _ => none
def cmpT : Order → Thing → Thing → Option Int
  | [], _, _ => some 0
  | (c, b) :: o, x, y =>
    match x[c - 1]?, y[c - 1]? with
    | some k, some l => (match ltK k l with
      | none => none
      | some lt => if k = l then cmpT o x y else if lt = b then some (-1) else some 1)
    | _, _ => none
theorem cmpT_cons {c : Nat} {b : Bool} {o : Order} {x y : Thing} {r : Int} (h : cmpT ((c, b) :: o) x y = some r) : ∃ k l lt, x[c - 1]? = some k ∧ y[c - 1]? = some l ∧ ltK k l = some lt ∧ ((k = l ∧ cmpT o x y = some r) ∨ (k ≠ l ∧ r = if lt = b then -1 else 1)) := by
  unfold cmpT at h
  cases hx : x[c - 1]? with
  | none => rw [hx] at h; cases h
  | some k =>
    cases hy : y[c - 1]? with
    | none => rw [hx, hy] at h; cases h
    | some l =>
      rw [hx, hy] at h
      dsimp only at h
      cases hl : ltK k l with
      | none => rw [hl] at h; cases h
      | some lt =>
        rw [hl] at h
        dsimp only at h
        refine ⟨k, l, lt, rfl, rfl, hl, ?_⟩
        by_cases e : k = l
        · rw [if_pos e] at h; exact .inl ⟨e, h⟩
        · rw [if_neg e] at h
          refine .inr ⟨e, ?_⟩
          by_cases q : lt = b
          · rw [if_pos q] at h ⊢; exact (Option.some.inj h).symm
          · rw [if_neg q] at h ⊢; exact (Option.some.inj h).symm
def spIsPart : Sp := fun vs H Q _ => ∃ (x : V) (p : Nat × Bool), vs = [x] ∧ PartAt H x p ∧ 1 ≤ p.1 ∧ p.1 ≤ 4 ∧ ∀ H', Fr [] H H' → Q (.bl true) H'
def spIsOrder : Sp := fun vs H Q _ => ∃ (o : Addr) (ord : Order), vs = [.ref o] ∧ OrdAt H o ord ∧ OrdOk ord ∧ ∀ H', Fr [] H H' → Q (.bl true) H'
def spCompared : Sp := fun vs H Q _ => ∃ (o : Addr) (ord : Order) (x y : V) (tx ty : Thing) (r : Int), vs = [.ref o, x, y] ∧ OrdAt H o ord ∧ ThAt H x tx ∧ ThAt H y ty ∧ (∀ p ∈ ord, 1 ≤ p.1) ∧ cmpT ord tx ty = some r ∧ Q (.int r) H
section
variable {P : Program} {w : World} {K : PySem.W.Frag} {mg : Str → Option Value} {base : Heap}
theorem sc_is_thing : FnScope ["x", "key"] ["x"] (defScope s_is_thing) := ⟨rfl, rfl, rfl, by decide +kernel, rfl, by decide +kernel, by decide +kernel⟩
theorem ok_is_thing (T : Hd K mg) : DOk P w K mg base 3 "is_thing" ["x"] spIsThing := by
  refine mkD T 2 2 rfl rfl sc_is_thing (fun _ _ _ _ _ _ us hl => match us, hl with | [_], _ => rfl) (fun vs H Q E h => ?_) (fun cdv A outer s H vs Q E hr h => ?_)
  · obtain ⟨a, t, rfl, _⟩ := h; rfl
  · obtain ⟨a, t, rfl, ha, ⟨h1, h4, hk⟩, q⟩ := h
    refine ⟨_, (pss_one (ps_ret (pe_and (pe_callB call_isi (by rfl) T.f_isinstance (by decide +kernel) (pa_cons (pv 0) (pa_cons (pe_bltn (v := .ty "tuple") rfl T.f_tuple (by decide +kernel) rfl) pa_nil))) (pe_and (pe_chain op_le op_le pe_int (pe_callB call_len_seq (by rfl) T.f_len (by decide +kernel) (pa_cons (pv 0) pa_nil)) pe_int) (pe_one (pe_callB (cr_all rfl) (by rfl) T.f_all (by decide +kernel) (pa_cons (pe_lc (own := [("key", 1)]) (g := gName 1) (tt := tYes) rfl sc_is_thing.nd (pi_tup (pv 0)) (blkOk_by (own := [("key", 1)]) (N := ["x", "key"]) (sc := defScope s_is_thing) (by decide +kernel)) (fun _ _ _ _ _ => (pg_name (i := 1) sc_is_thing.nd rfl (Or.inl rfl))) (fun _ _ _ _ _ => pts_nil) (fun _ _ _ _ _ => (pe_cd (ok_is_key T) (hr.mono (by decide)) (pa_cons (pv 1) pa_nil)))) pa_nil))))))), ?_⟩
    refine ⟨_, rfl, _, _, _, _, true, rfl, .ty "tuple", .base (.tup ha), kb_tt, true, rfl, ?_⟩
    refine ⟨_, rfl, a, _, rfl, .inr (SqT.of ha), _, _, rfl, rfl, _, rfl, ?_⟩
    refine itD (fun _ => ?_) (fun n => absurd (by rw [List.length_map]; omega) n)
    refine ⟨_, _, rfl, rfl, _, rfl, ?_⟩
    refine itD (fun _ => ?_) (fun n => absurd (by rw [List.length_map]; omega) n)
    refine ⟨_, rfl, a, rfl, ⟨_, SqT.of ha⟩, fun D hD => lc_it (walk_tup (xs := t.map kV)) (fun i H' => Fr [] H H' ∧ H' D = some (.lst (List.replicate i (V.bl true)))) ⟨(Fr.refl _ _).fresh hD, upd_same⟩ (fun _ _ _ p => SqT.of (p.1.tup a _ ha)) ?_ ?_⟩
    · rintro i x H1 H2 hi ⟨f, hl⟩ ⟨rfl, hx⟩
      obtain ⟨k, hk1, rfl⟩ := map_get hx
      refine ⟨rfl, ?_⟩
      refine ⟨_, rfl, k, rfl, hk k (List.mem_of_getElem? hk1), fun H3 f3 => ?_⟩
      refine ⟨_, f3.keep D _ (by simp) hl, by rw [List.length_replicate]; rw [List.length_map] at hi; exact sz_lt (by omega), (f.trans f3).fresh hD, ?_⟩
      rw [upd_same, ← rep_succ]
    · rintro H1 ⟨f, hl⟩
      refine ⟨D, List.replicate (t.map kV).length true, rfl, by rw [← rep_map]; exact SqL.of hl, ?_⟩
      rw [all_true]
      exact q _ f
theorem sc_is_row : FnScope ["x", "thing"] ["x"] (defScope s_is_row) := ⟨rfl, rfl, rfl, by decide +kernel, rfl, by decide +kernel, by decide +kernel⟩
theorem ok_is_row (T : Hd K mg) : DOk P w K mg base 4 "is_row" ["x"] spIsRow := by
  refine mkD T 3 3 rfl rfl sc_is_row (fun _ _ _ _ _ _ us hl => match us, hl with | [_], _ => rfl) (fun vs H Q E h => ?_) (fun cdv A outer s H vs Q E hr h => ?_)
  · obtain ⟨a, t, rfl, _⟩ := h; rfl
  · obtain ⟨a, rows, rfl, ⟨xs, ha, hlen, hth⟩, h60, hk, q⟩ := h
    refine ⟨_, (pss_one (ps_ret (pe_and (pe_callB call_isi (by rfl) T.f_isinstance (by decide +kernel) (pa_cons (pv 0) (pa_cons (pe_bltn (v := .ty "tuple") rfl T.f_tuple (by decide +kernel) rfl) pa_nil))) (pe_and (pe_cmpR op_le (pe_callB call_len_seq (by rfl) T.f_len (by decide +kernel) (pa_cons (pv 0) pa_nil)) (pe_gint T.i_MOST_THINGS) (nomark _)) (pe_one (pe_callB (cr_all rfl) (by rfl) T.f_all (by decide +kernel) (pa_cons (pe_lc (own := [("thing", 1)]) (g := gName 1) (tt := tYes) rfl sc_is_row.nd (pi_tup (pv 0)) (blkOk_by (own := [("thing", 1)]) (N := ["x", "thing"]) (sc := defScope s_is_row) (by decide +kernel)) (fun _ _ _ _ _ => (pg_name (i := 1) sc_is_row.nd rfl (Or.inl rfl))) (fun _ _ _ _ _ => pts_nil) (fun _ _ _ _ _ => (pe_cd (ok_is_thing T) (hr.mono (by decide)) (pa_cons (pv 1) pa_nil)))) pa_nil))))))), ?_⟩
    refine ⟨_, rfl, _, _, _, _, true, rfl, .ty "tuple", .base (.tup ha), kb_tt, true, rfl, ?_⟩
    refine ⟨_, rfl, a, _, rfl, .inr (SqT.of ha), _, _, rfl, rfl, _, rfl, ?_⟩
    refine itD (fun _ => ?_) (fun n => absurd (by omega) n)
    refine ⟨_, rfl, a, rfl, ⟨_, SqT.of ha⟩, fun D hD => lc_it (walk_tup (xs := xs)) (fun i H' => Fr [] H H' ∧ H' D = some (.lst (List.replicate i (V.bl true)))) ⟨(Fr.refl _ _).fresh hD, upd_same⟩ (fun _ _ _ p => SqT.of (p.1.tup a _ ha)) ?_ ?_⟩
    · rintro i x H1 H2 hi ⟨f, hl⟩ ⟨rfl, hx⟩
      have hr : rows[i]? = some (rows[i]'(by omega)) := List.getElem?_eq_getElem (by omega)
      obtain ⟨b, rfl, hb⟩ := hth i x _ hx hr
      refine ⟨rfl, ?_⟩
      refine ⟨_, rfl, b, _, rfl, f.tup b _ hb, hk _ (List.mem_of_getElem? hr), fun H3 f3 => ?_⟩
      refine ⟨_, f3.keep D _ (by simp) hl, by rw [List.length_replicate]; exact sz_lt (by omega), (f.trans f3).fresh hD, ?_⟩
      rw [upd_same, ← rep_succ]
    · rintro H1 ⟨f, hl⟩
      refine ⟨D, List.replicate xs.length true, rfl, by rw [← rep_map]; exact SqL.of hl, ?_⟩
      rw [all_true]
      exact q _ f
theorem sc_is_part : FnScope ["x"] ["x"] (defScope s_is_part) := ⟨rfl, rfl, rfl, by decide +kernel, rfl, by decide +kernel, by decide +kernel⟩
theorem ok_is_part (T : Hd K mg) : DOk P w K mg base 2 "is_part" ["x"] spIsPart := by
  refine mkD T 4 4 rfl rfl sc_is_part (fun _ _ _ _ _ _ us hl => match us, hl with | [_], _ => rfl) (fun vs H Q E h => ?_) (fun cdv A outer s H vs Q E hr h => ?_)
  · obtain ⟨x, p, rfl, _⟩ := h; rfl
  · obtain ⟨x, p, rfl, ⟨a, rfl, ha⟩, h1, h4, q⟩ := h
    refine ⟨_, (pss_cons (ps_if (PW.pt (pw_or (pt_not (pt_val (pe_callB call_isi (by rfl) T.f_isinstance (by decide +kernel) (pa_cons (pv 0) (pa_cons (pe_bltn (v := .ty "tuple") rfl T.f_tuple (by decide +kernel) rfl) pa_nil))))) (pw_or (pt_cmpR op_ne (pe_callB call_len_seq (by rfl) T.f_len (by decide +kernel) (pa_cons (pv 0) pa_nil)) pe_int (nomark _)) (pw_or (pt_not (pt_val (pe_cd (ok_is_whole T) (hr.mono (by decide)) (pa_cons (pe_ix ix_tup (pv 0) pe_int (fun _ _ => rfl)) pa_nil)))) (pw_or1 (pt_not (pt_val (pe_callB call_isi (by rfl) T.f_isinstance (by decide +kernel) (pa_cons (pe_ix ix_tup (pv 0) pe_int (fun _ _ => rfl)) (pa_cons (pe_bltn (v := .ty "str") rfl T.f_str (by decide +kernel) rfl) pa_nil))))))))))
        (pss_one (ps_ret pe_bl))
        pss_nil)
      (pss_one (ps_ret (pe_and (pe_chain op_le op_le pe_int (pe_ix ix_tup (pv 0) pe_int (fun _ _ => rfl)) pe_int) (pe_one (pe_cmpR op_in_seq (pe_ix ix_tup (pv 0) pe_int (fun _ _ => rfl)) (pe_tup (pa_cons pe_str (pa_cons pe_str pa_nil))) rfl)))))), ?_⟩
    refine ⟨_, rfl, _, _, _, _, true, rfl, .ty "tuple", .base (.tup ha), kb_tt, true, rfl, ?_⟩
    refine ⟨_, rfl, a, _, rfl, .inr (SqT.of ha), rfl, _, rfl, ?_⟩
    refine itN (fun n => absurd rfl n) (fun _ => ?_)
    refine ⟨_, rfl, a, _, _, _, rfl, rfl, SqT.of ha, rfl, ?_⟩
    refine ⟨_, rfl, .inl ⟨⟨_, rfl⟩, true, rfl, ?_⟩⟩
    refine ⟨_, rfl, a, _, _, _, rfl, rfl, SqT.of ha, rfl, ?_⟩
    refine ⟨_, _, _, _, true, rfl, .ty "str", .base (.str _), kb_ss, true, rfl, ?_⟩
    refine ⟨_, rfl, a, _, _, _, rfl, rfl, SqT.of ha, rfl, _, _, rfl, rfl, _, rfl, ?_⟩
    refine itD (fun _ => ?_) (fun n => absurd (by omega) n)
    refine ⟨_, _, rfl, rfl, _, rfl, ?_⟩
    refine itD (fun _ => ?_) (fun n => absurd (by omega) n)
    refine ⟨_, rfl, a, _, _, _, rfl, rfl, SqT.of ha, rfl, ?_⟩
    refine ⟨by show 2 ≤ sizeLine; decide, fun T hT => ?_⟩
    refine ⟨T, _, rfl, .inr (SqT.of upd_same), rfl, rfl, ?_⟩
    show Q (.bl (inV (.str (wayS p.2)) [.str "up", .str "down"])) _
    rw [way_in]
    exact q _ (Fr.new hT)
theorem sc_is_order : FnScope ["x", "columns", "part"] ["x"] (defScope s_is_order) := ⟨rfl, rfl, rfl, by decide +kernel, rfl, by decide +kernel, by decide +kernel⟩
theorem ok_is_order (T : Hd K mg) : DOk P w K mg base 3 "is_order" ["x"] spIsOrder := by
  refine mkD T 5 5 rfl rfl sc_is_order (fun _ _ _ _ _ _ us hl => match us, hl with | [_], _ => rfl) (fun vs H Q E h => ?_) (fun cdv A outer s H vs Q E hr h => ?_)
  · obtain ⟨x, p, rfl, _⟩ := h; rfl
  · obtain ⟨o, ord, rfl, ⟨xs, ho, hlen, hp⟩, hok, q⟩ := h
    refine ⟨_, (pss_cons (ps_if (PW.pt (pw_or (pt_not (pt_val (pe_callB call_isi (by rfl) T.f_isinstance (by decide +kernel) (pa_cons (pv 0) (pa_cons (pe_bltn (v := .ty "tuple") rfl T.f_tuple (by decide +kernel) rfl) pa_nil))))) (pw_or1 (pt_not (pt_chain op_le op_le pe_int (pe_callB call_len_seq (by rfl) T.f_len (by decide +kernel) (pa_cons (pv 0) pa_nil)) pe_int)))))
        (pss_one (ps_ret pe_bl))
        pss_nil)
      (pss_cons (ps_set (i := 1) sc_is_order.nd rfl (Or.inl rfl) (pe_lst pa_nil))
      (pss_cons (ps_for PassesOwn.never rfl (pi_tup (pv 0)) (pg_name (i := 2) sc_is_order.nd rfl (Or.inl rfl))
        (pss_cons (ps_if (PW.pt (pw_or (pt_not (pt_val (pe_cd (ok_is_part T) (hr.mono (by decide)) (pa_cons (pv 2) pa_nil)))) (pw_or1 (pt_cmpR op_in_seq (pe_ix ix_tup (pv 2) pe_int (fun _ _ => rfl)) (pv 1) rfl))))
          (pss_one (ps_ret pe_bl))
          pss_nil)
        (pss_one (ps_expr (pe_bm PySem.F.plainAttrs_list PySem.F.slot_list_append PySem.F.type_list_append mt_append (pv 1) (pa_cons (pe_ix ix_tup (pv 2) pe_int (fun _ _ => rfl)) pa_nil))))))
      (pss_one (ps_ret pe_bl))))), ?_⟩
    have h1 := hok.l1
    have h4 := hok.l4
    refine ⟨_, rfl, _, _, _, _, true, rfl, .ty "tuple", .base (.tup ho), kb_tt, true, rfl, ?_⟩
    refine ⟨_, rfl, o, _, rfl, .inr (SqT.of ho), _, _, rfl, rfl, _, rfl, ?_⟩
    refine itD (fun _ => ?_) (fun n => absurd (by omega) n)
    refine ⟨_, _, rfl, rfl, _, rfl, ?_⟩
    rw [decide_eq_true (show ((xs.length : Nat) : Int) ≤ 4 by omega)]
    refine ⟨Nat.zero_le _, fun l hl => ?_⟩
    refine ⟨_, rfl, o, rfl, ⟨_, SqT.of (by rw [upd_ne (ne_of_none ho hl)]; exact ho)⟩, for_it (walk_tup (xs := xs)) (fun i σ H' => Fr [] H H' ∧ H' l = some (.lst (vL ((ord.take i).map (·.1)))) ∧ ∃ z, σ = [some (.ref o), some (.ref l), z]) ⟨Fr.new hl, upd_same, _, rfl⟩ (fun _ _ _ _ p => SqT.of (p.1.tup o _ ho)) ?_ ?_⟩
    · rintro i x σ H1 H2 hi ⟨f, hL, z, rfl⟩ ⟨rfl, hx⟩
      have hr : ord[i]? = some (ord[i]'(by omega)) := List.getElem?_eq_getElem (by omega)
      have hm := List.mem_of_getElem? hr
      obtain ⟨c1, c4⟩ := hok.col _ hm
      have hpp := (hp i x _ hx hr)
      refine ⟨_, rfl, x, _, rfl, hpp.keep f, c1, c4, fun H3 f3 => ⟨true, rfl, ?_⟩⟩
      obtain ⟨b, rfl, hb⟩ := (hpp.keep f).keep f3
      have hL3 := f3.keep l _ (by simp) hL
      have hnot : (ord[i]'(by omega)).1 ∉ (ord.take i).map (·.1) := by
        have nd := hok.nd
        rw [← List.take_append_drop i ord, List.map_append, List.nodup_append] at nd
        intro hmem
        refine nd.2.2 _ hmem _ (List.mem_map.mpr ⟨ord[i]'(by omega), ?_, rfl⟩) rfl
        rw [List.drop_eq_getElem_cons (by omega)]
        exact List.mem_cons_self
      refine ⟨_, rfl, b, _, _, _, rfl, rfl, SqT.of hb, rfl, _, rfl, l, _, rfl, .inl (SqL.of hL3), rfl, vL_flat _, ?_⟩
      refine ⟨_, rfl, ?_⟩
      rw [if_neg (by decide), inV_int hnot]
      refine ⟨_, rfl, .inl ⟨rfl, _, SqL.of hL3⟩, ?_⟩
      refine ⟨_, rfl, b, _, _, _, rfl, rfl, SqT.of hb, rfl, l, _, _, rfl, rfl, hL3, by rw [vL_length, List.length_map, List.length_take]; exact sz_lt (by omega), ?_⟩
      refine ⟨(f.trans f3).fresh hl, ?_, _, rfl⟩
      rw [upd_same]
      have : ord.take (i + 1) = ord.take i ++ [ord[i]'(by omega)] := by rw [List.take_add_one, hr]; rfl
      rw [this, List.map_append]
      unfold vL
      rw [List.map_append]; rfl
    · rintro σ H1 ⟨f, hL, z, rfl⟩
      exact q _ f
theorem ltK_kinds {k l : Key} {lt : Bool} (h : ltK k l = some lt) : (∃ i j : Int, k = .inl i ∧ l = .inl j ∧ lt = decide (i < j)) ∨ (∃ x y : Str, k = .inr x ∧ l = .inr y ∧ lt = decide (x.cps.toList < y.cps.toList)) := by
  cases k with
  | inl i => cases l with
    | inl j => exact .inl ⟨i, j, rfl, rfl, (Option.some.inj h).symm⟩
    | inr y => cases h
  | inr x => cases l with
    | inl j => cases h
    | inr y => exact .inr ⟨x, y, rfl, rfl, (Option.some.inj h).symm⟩
end
end NR

set_option maxRecDepth 100000
set_option maxHeartbeats 4000000
/-! Two things held against each other; what is refused or not; the askers. -/
namespace NR
open PySem PySem.Spec PyProof.Rows L2 NM
theorem get_len {α : Type} {l : List α} {i : Nat} {x : α} (h : l[i]? = some x) : i < l.length := (List.getElem?_eq_some_iff.mp h).1
theorem map_some {α β : Type} {f : α → β} {l : List α} {i : Nat} {x : α} (h : l[i]? = some x) : (l.map f)[i]? = some (f x) := by rw [List.getElem?_map, h]; rfl
theorem th_at {t : Thing} {c : Nat} {k : Key} (h1 : 1 ≤ c) (h : t[c - 1]? = some k) : atI (t.map kV) ((c : Int) - 1) = some (kV k) := by
  have e : (c : Int) - 1 = ((c - 1 : Nat) : Int) := by omega
  rw [e]
  exact atI_nat (map_some h)
theorem drop_of_get {α : Type} {l : List α} {i : Nat} {x : α} (h : l[i]? = some x) : l.drop i = x :: l.drop (i + 1) := by
  obtain ⟨h1, h2⟩ := List.getElem?_eq_some_iff.mp h
  rw [List.drop_eq_getElem_cons h1, h2]
theorem get_ex {α : Type} {l : List α} {i : Nat} (h : i < l.length) : ∃ x, l[i]? = some x := ⟨_, List.getElem?_eq_getElem h⟩
theorem bl_eq {a b lt wb : Bool} (h1 : lt = a) (h2 : b = wb) : V.bl (decide (V.bl a = V.bl b)) = V.bl (decide (lt = wb)) := by
  subst h1 h2
  cases lt <;> cases b <;> rfl
theorem way_up (b : Bool) : decide (V.str (wayS b) = V.str "up") = b := by
  cases b
  · show decide (V.str "down" = V.str "up") = false
    decide +kernel
  · show decide (V.str "up" = V.str "up") = true
    decide +kernel
section
variable {P : Program} {w : World} {K : PySem.W.Frag} {mg : Str → Option Value} {base : Heap}
theorem ty_key (K : PySem.W.Frag) (H : Hp) (k : Key) : ∃ t : String, TyX K H (kV k) (.type t) ∧ kitB t "str" = some (match k with | .inl _ => false | .inr _ => true) := by
  cases k with
  | inl i => exact ⟨"int", .base (.int i), kb_is⟩
  | inr z => exact ⟨"str", .base (.str z), kb_ss⟩
theorem sc_compared : FnScope ["order", "x", "y", "column", "way", "one", "other"] ["order", "x", "y"] (defScope s_compared) := ⟨rfl, rfl, rfl, by decide +kernel, rfl, by decide +kernel, by decide +kernel⟩
theorem ok_compared (T : Hd K mg) : DOk P w K mg base 1 "compared" ["order", "x", "y"] spCompared := by
  refine mkD T 6 6 rfl rfl sc_compared (fun _ _ _ _ _ _ us hl => match us, hl with | [_, _, _], _ => rfl) (fun vs H Q E h => ?_) (fun cdv A outer s H vs Q E hr h => ?_)
  · obtain ⟨o, ord, x, y, tx, ty, r, rfl, _⟩ := h; rfl
  · obtain ⟨o, ord, x, y, tx, ty, r, rfl, ⟨xs, ho, hlen, hp⟩, ⟨ax, rfl, hx⟩, ⟨ay, rfl, hy⟩, hcol, hr, q⟩ := h
    refine ⟨_, (pss_cons (ps_for PassesOwn.never rfl (pi_tup (pv 0)) (pg_tup rfl (pgs_cons (pg_name (i := 3) sc_compared.nd rfl (Or.inl rfl)) (pgs_cons (pg_name (i := 4) sc_compared.nd rfl (Or.inl rfl)) pgs_nil)))
        (pss_cons (ps_if (pt_cmpR op_lt (pe_callB (call_min2 rfl) (by rfl) T.f_min (by decide +kernel) (pa_cons (pe_callB call_len_seq (by rfl) T.f_len (by decide +kernel) (pa_cons (pv 1) pa_nil)) (pa_cons (pe_callB call_len_seq (by rfl) T.f_len (by decide +kernel) (pa_cons (pv 2) pa_nil)) pa_nil))) (pv 3) (nomark _))
          (pss_one (ps_ret pe_non))
          pss_nil)
        (pss_cons (ps_set (i := 5) sc_compared.nd rfl (Or.inl rfl) (pe_ix ix_tup (pv 1) (pe_op op_sub (pv 3) pe_int) (fun _ _ => rfl)))
        (pss_cons (ps_set (i := 6) sc_compared.nd rfl (Or.inl rfl) (pe_ix ix_tup (pv 2) (pe_op op_sub (pv 3) pe_int) (fun _ _ => rfl)))
        (pss_cons (ps_if (pt_cmpR op_ne (pe_callB call_isi (by rfl) T.f_isinstance (by decide +kernel) (pa_cons (pv 5) (pa_cons (pe_bltn (v := .ty "str") rfl T.f_str (by decide +kernel) rfl) pa_nil))) (pe_callB call_isi (by rfl) T.f_isinstance (by decide +kernel) (pa_cons (pv 6) (pa_cons (pe_bltn (v := .ty "str") rfl T.f_str (by decide +kernel) rfl) pa_nil))) (nomark _))
          (pss_one (ps_ret pe_non))
          pss_nil)
        (pss_one (ps_if (pt_cmpR op_ne (pv 5) (pv 6) (nomark _))
          (pss_cons (ps_if (pt_cmpR op_eq (pe_cmpR op_ltK (pv 5) (pv 6) (nomark _)) (pe_cmpR op_eq (pv 4) pe_str (nomark _)) (nomark _))
            (pss_one (ps_ret (pe_un un_neg pe_int)))
            pss_nil)
          (pss_one (ps_ret pe_int)))
          pss_nil)))))))
      (pss_one (ps_ret pe_int))), ?_⟩
    refine ⟨_, rfl, o, rfl, ⟨_, SqT.of ho⟩, for_it (walk_tup (xs := xs)) (fun i σ H' => H' = H ∧ (∃ z1 z2 z3 z4, σ = [some (.ref o), some (.ref ax), some (.ref ay), z1, z2, z3, z4]) ∧ cmpT (ord.drop i) tx ty = some r) ⟨rfl, ⟨_, _, _, _, rfl⟩, hr⟩ (fun _ _ _ _ p => by rw [p.1]; exact SqT.of ho) ?_ ?_⟩
    · rintro i v σ H1 H2 hi ⟨rfl, ⟨z1, z2, z3, z4, rfl⟩, hc⟩ ⟨rfl, hv⟩
      obtain ⟨⟨c, wb⟩, hri⟩ := get_ex (show i < ord.length by omega)
      obtain ⟨b, rfl, hb⟩ := hp i v _ hv hri
      have h1 := hcol _ (List.mem_of_getElem? hri)
      rw [drop_of_get hri] at hc
      dsimp only at h1 hb
      obtain ⟨k, l, lt, hk, hl, hlt, hcase⟩ := cmpT_cons hc
      have lx := get_len hk
      have ly := get_len hl
      refine ⟨b, _, rfl, SqT.of hb, rfl, _, _, rfl, _, _, rfl, rfl, ?_⟩
      refine ⟨_, rfl, ax, _, rfl, .inr (SqT.of hx), _, rfl, ay, _, rfl, .inr (SqT.of hy), _, _, rfl, _, rfl, _, _, rfl, rfl, _, rfl, ?_⟩
      refine itD (fun n => ?_) (fun _ => ?_)
      · exfalso
        rw [List.length_map, List.length_map] at n
        split at n <;> omega
      refine ⟨_, rfl, _, rfl, _, _, rfl, rfl, ax, _, _, _, rfl, rfl, SqT.of hx, th_at h1 hk, ?_⟩
      refine ⟨_, rfl, _, rfl, _, _, rfl, rfl, ay, _, _, _, rfl, rfl, SqT.of hy, th_at h1 hl, ?_⟩
      have hnext : k = l → cmpT (ord.drop (i + 1)) tx ty = some r := fun e => by
        rcases hcase with ⟨_, h⟩ | ⟨n, _⟩
        · exact h
        · exact absurd e n
      have hstop : k ≠ l → r = if lt = wb then -1 else 1 := fun n => by
        rcases hcase with ⟨e, _⟩ | ⟨_, h⟩
        · exact absurd e n
        · exact h
      rcases ltK_kinds hlt with ⟨u, v, rfl, rfl, elt⟩ | ⟨u, v, rfl, rfl, elt⟩
      · refine ⟨_, rfl, _, _, _, _, false, rfl, .ty "str", .base (.int u), kb_is, _, rfl, _, _, _, _, false, rfl, .ty "str", .base (.int v), kb_is, rfl, _, rfl, ?_⟩
        refine ⟨_, rfl, _, rfl, rfl, _, rfl, ?_⟩
        refine itN (fun n => ?_) (fun e => ?_)
        · have n' : (Sum.inl u : Key) ≠ Sum.inl v := fun z => n (by injection z with z; subst z; rfl)
          refine ⟨_, rfl, _, rfl, .inl ⟨_, _, rfl, rfl, _, rfl, rfl, rfl, decide (lt = wb), bl_eq elt (way_up wb), ?_⟩⟩
          refine itD (fun e => ?_) (fun e => ?_)
          · refine ⟨_, rfl, ?_⟩
            show Q (.int (-1)) H2
            rw [hstop n', if_pos e] at q
            exact q
          · show Q (.int 1) H2
            rw [hstop n', if_neg e] at q
            exact q
        · have e' : (Sum.inl u : Key) = Sum.inl v := by injection e with e; subst e; rfl
          exact ⟨rfl, ⟨_, _, _, _, rfl⟩, hnext e'⟩
      · refine ⟨_, rfl, _, _, _, _, true, rfl, .ty "str", .base (.str u), kb_ss, _, rfl, _, _, _, _, true, rfl, .ty "str", .base (.str v), kb_ss, rfl, _, rfl, ?_⟩
        refine ⟨_, rfl, _, rfl, rfl, _, rfl, ?_⟩
        refine itN (fun n => ?_) (fun e => ?_)
        · have n' : (Sum.inr u : Key) ≠ Sum.inr v := fun z => n (by injection z with z; subst z; rfl)
          refine ⟨_, rfl, _, rfl, .inr ⟨_, _, rfl, rfl, _, rfl, rfl, rfl, decide (lt = wb), bl_eq elt (way_up wb), ?_⟩⟩
          refine itD (fun e => ?_) (fun e => ?_)
          · refine ⟨_, rfl, ?_⟩
            show Q (.int (-1)) H2
            rw [hstop n', if_pos e] at q
            exact q
          · show Q (.int 1) H2
            rw [hstop n', if_neg e] at q
            exact q
        · have e' : (Sum.inr u : Key) = Sum.inr v := by injection e with e; subst e; rfl
          exact ⟨rfl, ⟨_, _, _, _, rfl⟩, hnext e'⟩
    · rintro σ H1 ⟨rfl, ⟨z1, z2, z3, z4, rfl⟩, hc⟩
      rw [hlen, List.drop_length] at hc
      have := Option.some.inj hc
      subst this
      exact q
end
end NR

set_option maxRecDepth 100000
set_option maxHeartbeats 4000000
/-! What is refused or not; the askers. -/
namespace NR
open PySem PySem.Spec PyProof.Rows L2 NM
theorem putK_len {κ : Type} [DecidableEq κ] (kvs : List (κ × V)) (k : κ) (y : V) : (putK kvs k y).length ≤ kvs.length + 1 := by
  unfold putK
  split
  · rw [List.length_map]; omega
  · rw [List.length_append]; exact Nat.le_refl _
def asF (n : Nat) (l r o : Addr) : List (Str × V) := [("size", vI n), ("limit", .non), ("asks", .ref l), ("row", .ref r), ("columns", .ref o)]
/-- an asker: where it and its book stand, its row, its order, the ranks of its things -/
structure AC where
  p : Addr
  dx : Addr
  l : Addr
  r : Addr
  o : Addr
  n : Nat
  rk : Nat → Nat
  rows : List Thing
  ord : Order
structure CmpOk (n : Nat) (rows : List Thing) (ord : Order) (rk : Nat → Nat) : Prop where
  len : rows.length = n
  n60 : n ≤ 60
  col : ∀ p ∈ ord, 1 ≤ p.1
  cmp : ∀ (x y : Nat) (tx ty : Thing), x ≠ y → rows[x]? = some tx → rows[y]? = some ty → ∃ r : Int, cmpT ord tx ty = some r ∧ (r = -1 ↔ rk x < rk y)
structure AskAt (K : PySem.W.Frag) (c : AC) (q : Nat) (H : Hp) : Prop where
  hp : H c.p = some (.ins (He.ga K "Asker") c.dx (asF c.n c.l c.r c.o))
  hl : ∃ bk : List V, H c.l = some (.lst bk) ∧ bk.length = q
  hr : RowAt H c.r c.rows
  ho : OrdAt H c.o c.ord
  ok : CmpOk c.n c.rows c.ord c.rk
theorem AskAt.keep {K : PySem.W.Frag} {c : AC} {q : Nat} {H H' : Hp} {xs : List Addr} (h : AskAt K c q H) (f : Fr xs H H') (hp : c.p ∉ xs) (hl : c.l ∉ xs) : AskAt K c q H' := by
  obtain ⟨bk, h1, h2⟩ := h.hl
  exact ⟨f.keep _ _ hp h.hp, ⟨bk, f.keep _ _ hl h1, h2⟩, h.hr.keep f, h.ho.keep f, h.ok⟩
theorem AskAt.keep0 {K : PySem.W.Frag} {c : AC} {q : Nat} {H H' : Hp} (h : AskAt K c q H) (f : Fr [] H H') : AskAt K c q H' := h.keep f (by simp) (by simp)
theorem AskAt.ne {K : PySem.W.Frag} {c : AC} {q : Nat} {H : Hp} (h : AskAt K c q H) : c.p ≠ c.l := by
  obtain ⟨bk, h1, h2⟩ := h.hl
  exact ne_of h.hp h1 (by intro z; cases z)
/-! ### promises -/
def spCheckNumber : Sp := fun vs H Q _ => ∃ m x : Nat, vs = [vI m, vI x] ∧ x < m ∧ Q .non H
def spCheckLine : Sp := fun vs H Q _ => ∃ (m : Nat) (a : Addr) (l : List Nat), vs = [vI m, .ref a] ∧ H a = some (.tup (vL l)) ∧ l.Nodup ∧ (∀ x ∈ l, x < m) ∧ l.length ≤ 1000 ∧ ∀ H', Fr [] H H' → Q .non H'
def spCheckMost : Sp := fun vs H Q _ => vs = [.non] ∧ Q .non H
def spMany (K : PySem.W.Frag) : Sp := fun vs H Q _ => ∃ (c : AC) (q : Nat), vs = [.ref c.p] ∧ AskAt K c q H ∧ Q (vI c.n) H
def spBook (K : PySem.W.Frag) : Sp := fun vs H Q _ => ∃ (c : AC) (q : Nat), vs = [.ref c.p] ∧ AskAt K c q H ∧ ∀ (t : Addr) (bk : List V) (H' : Hp), H t = none → H' t = some (.tup bk) → bk.length = q → Fr [] H H' → Q (.ref t) H'
def spCheckAsk (K : PySem.W.Frag) : Sp := fun vs H Q _ => ∃ (c : AC) (q x y : Nat), vs = [.ref c.p, vI x, vI y] ∧ AskAt K c q H ∧ x < c.n ∧ y < c.n ∧ Q .non H
def spWriteDown (K : PySem.W.Frag) : Sp := fun vs H Q _ => ∃ (c : AC) (q x y : Nat) (b : Bool), vs = [.ref c.p, vI x, vI y, .bl b] ∧ AskAt K c q H ∧ q < 90000 ∧ ∀ H', Fr [c.l] H H' → AskAt K c (q + 1) H' → Q (.bl b) H'
def spLess (K : PySem.W.Frag) : Sp := fun vs H Q _ => ∃ (c : AC) (q x y : Nat), vs = [.ref c.p, vI x, vI y] ∧ AskAt K c q H ∧ x < c.n ∧ y < c.n ∧ q < 90000 ∧ ∀ H', Fr [c.l] H H' → AskAt K c (q + 1) H' → Q (.bl (decide (c.rk x < c.rk y))) H'
def spNotedInit (K : PySem.W.Frag) : Sp := fun vs H Q _ => ∃ (p dx : Addr) (n : Nat), vs = [.ref p, vI n, .non] ∧ H p = some (.ins (He.ga K "Asker") dx []) ∧
  ∀ (l : Addr) (H' : Hp), H l = none → Fr [p] H H' → H' l = some (.lst []) → H' p = some (.ins (He.ga K "Asker") dx [("size", vI n), ("limit", .non), ("asks", .ref l)]) → Q .non H'
def spAskerInit (K : PySem.W.Frag) : Sp := fun vs H Q _ => ∃ (p dx r o : Addr) (n : Nat) (rk : Nat → Nat) (rows : List Thing) (ord : Order), vs = [.ref p, .ref r, .ref o, .non] ∧ H p = some (.ins (He.ga K "Asker") dx []) ∧
  RowAt H r rows ∧ OrdAt H o ord ∧ OrdOk ord ∧ (∀ t ∈ rows, ThingOk t) ∧ CmpOk n rows ord rk ∧ ∀ (l : Addr) (H' : Hp), H l = none → Fr [p] H H' → AskAt K ⟨p, dx, l, r, o, n, rk, rows, ord⟩ 0 H' → Q .non H'
section
variable {P : Program} {w : World} {K : PySem.W.Frag} {mg : Str → Option Value} {base : Heap}
theorem sc_check_number : FnScope ["many", "x"] ["many", "x"] (defScope s_check_number) := ⟨rfl, rfl, rfl, by decide +kernel, rfl, by decide +kernel, by decide +kernel⟩
theorem ok_check_number (T : Hd K mg) : DOk P w K mg base 2 "check_number" ["many", "x"] spCheckNumber := by
  refine mkD T 7 7 rfl rfl sc_check_number (fun _ _ _ _ _ _ us hl => match us, hl with | [_, _], _ => rfl) (fun vs H Q E h => ?_) (fun cdv A outer s H vs Q E hr h => ?_)
  · obtain ⟨m, x, rfl, _⟩ := h; rfl
  · obtain ⟨m, x, rfl, hx, q⟩ := h
    refine ⟨_, (pss_one (ps_if (PW.pt (pw_or (pt_not (pt_val (pe_cd (ok_is_whole T) (hr.mono (by decide)) (pa_cons (pv 1) pa_nil)))) (pw_or1 (pt_not (pt_chain op_le op_lt pe_int (pv 1) (pv 0))))))
        (pss_one ps_never)
        pss_nil)), ?_⟩
    refine ⟨_, rfl, _, rfl, .inl ⟨⟨_, rfl⟩, true, rfl, ?_⟩⟩
    refine ⟨_, rfl, _, _, rfl, rfl, _, rfl, ?_⟩
    refine itD (fun _ => ?_) (fun n => absurd (by omega) n)
    refine ⟨_, rfl, _, _, rfl, rfl, _, rfl, ?_⟩
    rw [decide_eq_true (show (x : Int) < (m : Int) by omega)]
    exact q
theorem sc_check_line : FnScope ["many", "line", "seen", "number"] ["many", "line"] (defScope s_check_line) := ⟨rfl, rfl, rfl, by decide +kernel, rfl, by decide +kernel, by decide +kernel⟩
theorem ok_check_line (T : Hd K mg) : DOk P w K mg base 2 "check_line" ["many", "line"] spCheckLine := by
  refine mkD T 8 8 rfl rfl sc_check_line (fun _ _ _ _ _ _ us hl => match us, hl with | [_, _], _ => rfl) (fun vs H Q E h => ?_) (fun cdv A outer s H vs Q E hr h => ?_)
  · obtain ⟨m, a, l, rfl, _⟩ := h; rfl
  · obtain ⟨m, a, l, rfl, ha, nd, hm, hl60, q⟩ := h
    refine ⟨_, (pss_cons (ps_if (pt_not (pt_val (pe_callB call_isi (by rfl) T.f_isinstance (by decide +kernel) (pa_cons (pv 1) (pa_cons (pe_bltn (v := .ty "tuple") rfl T.f_tuple (by decide +kernel) rfl) pa_nil)))))
        (pss_one ps_never)
        pss_nil)
      (pss_cons (ps_set (i := 2) sc_check_line.nd rfl (Or.inl rfl) pe_dnewK)
      (pss_one (ps_for PassesOwn.never rfl (pi_tup (pv 1)) (pg_name (i := 3) sc_check_line.nd rfl (Or.inl rfl))
        (pss_cons (ps_if (PW.pt (pw_or (pt_not (pt_val (pe_cd (ok_is_whole T) (hr.mono (by decide)) (pa_cons (pv 3) pa_nil)))) (pw_or (pt_not (pt_chain op_le op_lt pe_int (pv 3) (pv 0))) (pw_or1 (pt_cmp (pc_din (hu_of hr) (pv 3) (pv 2)))))))
          (pss_one ps_never)
          pss_nil)
        (pss_one (ps_dput (hu_of hr) (pv 2) (pv 3) pe_bl rfl))))))), ?_⟩
    refine ⟨_, rfl, _, _, _, _, true, rfl, .ty "tuple", .base (.tup ha), kb_tt, true, rfl, fun d hd => ?_⟩
    have hda : a ≠ d := ne_of_none ha hd
    refine ⟨_, rfl, a, rfl, ⟨_, SqT.of (by rw [upd_ne hda]; exact ha)⟩, for_it (walk_tup (xs := vL l)) (fun i σ H' => Fr [] H H' ∧ (∃ z, σ = [some (vI m), some (.ref a), some (.ref d), z]) ∧ ∃ kvs : List (Key × V), H' d = some (.dK kvs) ∧ kvs.length ≤ i ∧ ∀ x : Nat, x ∉ l.take i → valV kvs (Sum.inl (x : Int)) = none) ⟨Fr.new hd, ⟨_, rfl⟩, [], upd_same, Nat.le_refl _, fun _ _ => rfl⟩ (fun _ _ _ _ p => SqT.of (p.1.tup a _ ha)) ?_ ?_⟩
    · rintro i v σ H1 H2 hi ⟨f, ⟨z, rfl⟩, kvs, hk, hlen, hno⟩ ⟨rfl, hv⟩
      obtain ⟨x, hx, rfl⟩ := map_get hv
      have hxl := List.mem_of_getElem? hx
      have hxm := hm x hxl
      have hil := get_len hx
      refine ⟨_, rfl, _, rfl, .inl ⟨⟨_, rfl⟩, true, rfl, ?_⟩⟩
      refine ⟨_, rfl, _, _, rfl, rfl, _, rfl, ?_⟩
      refine itD (fun _ => ?_) (fun n => absurd (by omega) n)
      refine ⟨_, rfl, _, _, rfl, rfl, _, rfl, ?_⟩
      rw [decide_eq_true (show (x : Int) < (m : Int) by omega)]
      have hxn : x ∉ l.take i := by
        rw [← List.take_append_drop i l, List.nodup_append] at nd
        intro hmem
        refine nd.2.2 _ hmem x ?_ rfl
        rw [drop_of_get hx]
        exact List.mem_cons_self
      refine ⟨_, rfl, _, rfl, d, _, rfl, DGet.k (k := Sum.inl (x : Int)) hk, _, rfl, ?_⟩
      rw [hno x hxn]
      refine ⟨_, rfl, _, rfl, d, _, rfl, DPut.k (k := Sum.inl (x : Int)) hk (sz_lt (by omega)), f.fresh hd, ⟨_, rfl⟩, _, upd_same, ?_, fun y hy => ?_⟩
      · have := putK_len kvs (Sum.inl (x : Int)) (.bl true); omega
      · have ht : l.take (i + 1) = l.take i ++ [x] := by rw [List.take_add_one, hx]; rfl
        rw [ht] at hy
        rw [valV_put, if_neg (fun e => hy (by
          injection e with e
          have : y = x := by omega
          rw [this]; simp))]
        exact hno y (fun z => hy (List.mem_append_left _ z))
    · rintro σ H1 ⟨f, ⟨z, rfl⟩, _⟩
      exact q _ f
theorem sc_check_most : FnScope ["most"] ["most"] (defScope s_check_most) := ⟨rfl, rfl, rfl, by decide +kernel, rfl, by decide +kernel, by decide +kernel⟩
theorem ok_check_most (T : Hd K mg) : DOk P w K mg base 2 "check_most" ["most"] spCheckMost := by
  refine mkD T 9 9 rfl rfl sc_check_most (fun _ _ _ _ _ _ us hl => match us, hl with | [_], _ => rfl) (fun vs H Q E h => ?_) (fun cdv A outer s H vs Q E hr h => ?_)
  · obtain ⟨rfl, _⟩ := h; rfl
  · obtain ⟨rfl, q⟩ := h
    refine ⟨_, (pss_cons (ps_if (pt_cmpR op_isN (pv 0) pe_non (nomark _))
        (pss_one (ps_ret pe_non))
        pss_nil)
      (pss_one (ps_if (PW.pt (pw_or (pt_not (pt_val (pe_cd (ok_is_whole T) (hr.mono (by decide)) (pa_cons (pv 0) pa_nil)))) (pw_or1 (pt_cmpR op_lt (pv 0) pe_int (nomark _)))))
        (pss_one ps_never)
        pss_nil))), ?_⟩
    exact ⟨_, rfl, rfl, true, rfl, q⟩
theorem sc_Noted_many : FnScope ["self"] ["self"] (defScope s_Noted_many) := ⟨rfl, rfl, rfl, by decide +kernel, rfl, by decide +kernel, by decide +kernel⟩
theorem ok_Noted_many (T : Hd K mg) : MOk P w K mg base 1 (He.ga K "Asker") "many" ["self"] (spMany K) := by
  refine mkM T 11 86 93 rfl rfl rfl sc_Noted_many (fun _ _ _ _ _ _ us hl => match us, hl with | [_], _ => rfl) (fun vs H Q E h => ?_) (fun cdv A outer s H vs Q E hr h => ?_)
  · obtain ⟨c, q, rfl, _⟩ := h; rfl
  · obtain ⟨c, n, rfl, ha, q⟩ := h
    refine ⟨_, (pss_one (ps_ret (pe_fld (pv 0) rfl))), ?_⟩
    exact ⟨_, rfl, _, _, _, _, _, rfl, ha.hp, T.c_Asker, T.n_Asker_size, rfl, q⟩
theorem sc_Noted_book : FnScope ["self"] ["self"] (defScope s_Noted_book) := ⟨rfl, rfl, rfl, by decide +kernel, rfl, by decide +kernel, by decide +kernel⟩
theorem ok_Noted_book (T : Hd K mg) : MOk P w K mg base 1 (He.ga K "Asker") "book" ["self"] (spBook K) := by
  refine mkM T 12 86 94 rfl rfl rfl sc_Noted_book (fun _ _ _ _ _ _ us hl => match us, hl with | [_], _ => rfl) (fun vs H Q E h => ?_) (fun cdv A outer s H vs Q E hr h => ?_)
  · obtain ⟨c, q, rfl, _⟩ := h; rfl
  · obtain ⟨c, n, rfl, ha, q⟩ := h
    refine ⟨_, (pss_one (ps_ret (pe_callTy call_tuple_of (by rfl) T.f_tuple (by decide +kernel) (pa_cons (pe_fld (pv 0) rfl) pa_nil)))), ?_⟩
    obtain ⟨bk, h1, h2⟩ := ha.hl
    exact ⟨_, rfl, _, _, _, _, _, rfl, ha.hp, T.c_Asker, T.n_Asker_asks, rfl, c.l, bk, rfl, .inl ⟨SqL.of h1, fun t ht => q t bk _ ht upd_same h2 (Fr.new ht)⟩⟩
theorem sc_Noted_check_ask : FnScope ["self", "x", "y"] ["self", "x", "y"] (defScope s_Noted_check_ask) := ⟨rfl, rfl, rfl, by decide +kernel, rfl, by decide +kernel, by decide +kernel⟩
theorem ok_Noted_check_ask (T : Hd K mg) : MOk P w K mg base 3 (He.ga K "Asker") "check_ask" ["self", "x", "y"] (spCheckAsk K) := by
  refine mkM T 13 86 95 rfl rfl rfl sc_Noted_check_ask (fun _ _ _ _ _ _ us hl => match us, hl with | [_, _, _], _ => rfl) (fun vs H Q E h => ?_) (fun cdv A outer s H vs Q E hr h => ?_)
  · obtain ⟨c, q, x, y, rfl, _⟩ := h; rfl
  · obtain ⟨c, n, x, y, rfl, ha, hx, hy, q⟩ := h
    refine ⟨_, (pss_cons (ps_expr (pe_cd (ok_check_number T) (hr.mono (by decide)) (pa_cons (pe_fld (pv 0) rfl) (pa_cons (pv 1) pa_nil))))
      (pss_cons (ps_expr (pe_cd (ok_check_number T) (hr.mono (by decide)) (pa_cons (pe_fld (pv 0) rfl) (pa_cons (pv 2) pa_nil))))
      (pss_one (ps_if (PW.pt (pw_and (pt_cmpR op_notN (pe_fld (pv 0) rfl) pe_non (nomark _)) (pw_and1 (pt_cmpR op_ge (pe_callB call_len_seq (by rfl) T.f_len (by decide +kernel) (pa_cons (pe_fld (pv 0) rfl) pa_nil)) (pe_fld (pv 0) rfl) (nomark _)))))
        (pss_one ps_never)
        pss_nil)))), ?_⟩
    refine ⟨_, rfl, _, _, _, _, _, rfl, ha.hp, T.c_Asker, T.n_Asker_size, rfl, _, rfl, c.n, x, rfl, hx, ?_⟩
    refine ⟨_, rfl, _, _, _, _, _, rfl, ha.hp, T.c_Asker, T.n_Asker_size, rfl, _, rfl, c.n, y, rfl, hy, ?_⟩
    exact ⟨_, rfl, _, _, _, _, _, rfl, ha.hp, T.c_Asker, T.n_Asker_limit, rfl, rfl, false, rfl, q⟩
theorem sc_Noted_write_down : FnScope ["self", "x", "y", "answer"] ["self", "x", "y", "answer"] (defScope s_Noted_write_down) := ⟨rfl, rfl, rfl, by decide +kernel, rfl, by decide +kernel, by decide +kernel⟩
theorem ok_Noted_write_down (T : Hd K mg) : MOk P w K mg base 1 (He.ga K "Asker") "write_down" ["self", "x", "y", "answer"] (spWriteDown K) := by
  refine mkM T 14 86 96 rfl rfl rfl sc_Noted_write_down (fun _ _ _ _ _ _ us hl => match us, hl with | [_, _, _, _], _ => rfl) (fun vs H Q E h => ?_) (fun cdv A outer s H vs Q E hr h => ?_)
  · obtain ⟨c, q, x, y, b, rfl, _⟩ := h; rfl
  · obtain ⟨c, n, x, y, b, rfl, ha, hn, q⟩ := h
    refine ⟨_, (pss_cons (ps_expr (pe_bm PySem.F.plainAttrs_list PySem.F.slot_list_append PySem.F.type_list_append mt_append (pe_fld (pv 0) rfl) (pa_cons (pe_tup (pa_cons (pv 1) (pa_cons (pv 2) (pa_cons (pv 3) pa_nil)))) pa_nil)))
      (pss_one (ps_ret (pv 3)))), ?_⟩
    obtain ⟨bk, h1, h2⟩ := ha.hl
    refine ⟨_, rfl, _, _, _, _, _, rfl, ha.hp, T.c_Asker, T.n_Asker_asks, rfl, .inl ⟨rfl, _, SqL.of h1⟩, ?_⟩
    refine ⟨_, rfl, _, rfl, _, rfl, by show 3 ≤ sizeLine; decide, fun t ht => ?_⟩
    have hlt : c.l ≠ t := ne_of_none h1 ht
    have h1' : upd H t (.tup [vI x, vI y, .bl b]) c.l = some (.lst bk) := by rw [upd_ne hlt]; exact h1
    refine ⟨c.l, _, _, rfl, rfl, h1', sz_lt (by omega), ?_⟩
    refine ⟨_, rfl, ?_⟩
    have f1 : Fr [c.l] H (upd H t (.tup [vI x, vI y, .bl b])) := Fr.new ht
    have f2 : Fr [c.l] (upd H t (.tup [vI x, vI y, .bl b])) (upd (upd H t (.tup [vI x, vI y, .bl b])) c.l (.lst (bk ++ [.ref t]))) := Fr.put (by simp) h1' rfl
    have f := f1.trans f2
    exact q _ f ⟨f.keep _ _ (by simpa using ha.ne) ha.hp, ⟨_, upd_same, by rw [List.length_append, h2]; rfl⟩, ha.hr.keep f, ha.ho.keep f, ha.ok⟩
theorem sc_Asker_less : FnScope ["self", "x", "y", "told"] ["self", "x", "y"] (defScope s_Asker_less) := ⟨rfl, rfl, rfl, by decide +kernel, rfl, by decide +kernel, by decide +kernel⟩
theorem ok_Asker_less (T : Hd K mg) : MOk P w K mg base 5 (He.ga K "Asker") "less" ["self", "x", "y"] (spLess K) := by
  refine mkM T 16 86 97 rfl rfl rfl sc_Asker_less (fun _ _ _ _ _ _ us hl => match us, hl with | [_, _, _], _ => rfl) (fun vs H Q E h => ?_) (fun cdv A outer s H vs Q E hr h => ?_)
  · obtain ⟨c, q, x, y, rfl, _⟩ := h; rfl
  · obtain ⟨c, n, x, y, rfl, ha, hx, hy, hn, q⟩ := h
    refine ⟨_, (pss_cons (ps_expr (pe_md (ok_Noted_check_ask T) (hr.mono (by decide)) (pv 0) (pa_cons (pv 1) (pa_cons (pv 2) pa_nil))))
      (pss_cons (ps_set (i := 3) sc_Asker_less.nd rfl (Or.inl rfl) pe_int)
      (pss_cons (ps_if (pt_cmpR op_ne (pv 1) (pv 2) (nomark _))
        (pss_one (ps_set (i := 3) sc_Asker_less.nd rfl (Or.inl rfl) (pe_cd (ok_compared T) (hr.mono (by decide)) (pa_cons (pe_fld (pv 0) rfl) (pa_cons (pe_ix ix_tup (pe_fld (pv 0) rfl) (pv 1) (fun _ _ => rfl)) (pa_cons (pe_ix ix_tup (pe_fld (pv 0) rfl) (pv 2) (fun _ _ => rfl)) pa_nil))))))
        pss_nil)
      (pss_cons (ps_if (pt_cmpR op_isN (pv 3) pe_non (nomark _))
        (pss_one ps_never)
        pss_nil)
      (pss_one (ps_ret (pe_md (ok_Noted_write_down T) (hr.mono (by decide)) (pv 0) (pa_cons (pv 1) (pa_cons (pv 2) (pa_cons (pe_cmpR op_eq (pv 3) (pe_un un_neg pe_int) (nomark _)) pa_nil)))))))))), ?_⟩
    refine ⟨_, rfl, _, _, _, rfl, ha.hp, rfl, _, rfl, _, rfl, c, n, x, y, rfl, ha, hx, hy, ?_⟩
    have hlen := ha.ok.len
    obtain ⟨tx, htx⟩ := get_ex (show x < c.rows.length by omega)
    obtain ⟨ty, hty⟩ := get_ex (show y < c.rows.length by omega)
    refine ⟨_, rfl, _, rfl, rfl, _, rfl, ?_⟩
    refine itN (fun ne => ?_) (fun e => ?_)
    · have ne' : x ≠ y := fun e => ne (by rw [e])
      obtain ⟨r, hr1, hr2⟩ := ha.ok.cmp x y tx ty ne' htx hty
      obtain ⟨xs, vx, e1, g1, t1⟩ := ha.hr.get htx
      obtain ⟨xs', vy, e2, g2, t2⟩ := ha.hr.get hty
      rw [e1] at e2
      have e2 := Option.some.inj e2
      injection e2 with e2
      subst e2
      refine ⟨_, rfl, _, _, _, _, _, rfl, ha.hp, T.c_Asker, T.n_Asker_columns, rfl, ?_⟩
      refine ⟨_, rfl, _, _, _, _, _, rfl, ha.hp, T.c_Asker, T.n_Asker_row, rfl, _, rfl, c.r, _, _, _, rfl, rfl, SqT.of e1, atI_nat g1, ?_⟩
      refine ⟨_, rfl, _, _, _, _, _, rfl, ha.hp, T.c_Asker, T.n_Asker_row, rfl, _, rfl, c.r, _, _, _, rfl, rfl, SqT.of e1, atI_nat g2, ?_⟩
      refine ⟨c.o, c.ord, vx, vy, tx, ty, r, rfl, ha.ho, t1, t2, ha.ok.col, hr1, ?_⟩
      refine ⟨_, rfl, rfl, false, rfl, ?_⟩
      refine ⟨_, rfl, _, _, _, rfl, ha.hp, rfl, _, rfl, _, rfl, _, rfl, _, rfl, rfl, ?_⟩
      refine ⟨c, n, x, y, decide (c.rk x < c.rk y), ?_, ha, hn, q⟩
      have : decide (V.int r = V.int (-1)) = decide (c.rk x < c.rk y) := by
        rw [dec_int]
        by_cases z : r = -1
        · rw [decide_eq_true (hr2.mp z), z]; rfl
        · rw [decide_eq_false (fun k => z (hr2.mpr k))]
          exact beq_eq_false_iff_ne.mpr z
      rw [← this]
    · have e' : x = y := by injection e with e; omega
      refine ⟨_, rfl, rfl, false, rfl, ?_⟩
      refine ⟨_, rfl, _, _, _, rfl, ha.hp, rfl, _, rfl, _, rfl, _, rfl, _, rfl, rfl, ?_⟩
      refine ⟨c, n, x, y, decide (c.rk x < c.rk y), ?_, ha, hn, q⟩
      rw [e', decide_eq_false (Nat.lt_irrefl _)]
      rfl
end
end NR

set_option maxRecDepth 100000
set_option maxHeartbeats 4000000
/-! Askers made. -/
namespace NR
open PySem PySem.Spec PyProof.Rows L2 NM
theorem Fr.put1 {H : Hp} {p : Addr} {o u : HO} (h : H p = some u) (hu : notT u = true) : Fr [p] H (upd H p o) := Fr.put List.mem_cons_self h hu
section
variable {P : Program} {w : World} {K : PySem.W.Frag} {mg : Str → Option Value} {base : Heap}
theorem exC_ok (h : exC K = true) : ClX.CRead K (He.ga K "Noted") (.type "type") ∧ PySem.W.findCls K (.ref (He.ga K "Noted")) (.type "type") "__init__" = some (.val (.ref (He.fAd K ("Noted", some "__init__")))) := by
  obtain ⟨h1, h2⟩ := He.ba h
  obtain ⟨h2, h3⟩ := He.ba h2
  refine ⟨⟨h1, of_decide_eq_true h2⟩, ?_⟩
  cases e : PySem.W.findCls K (.ref (He.ga K "Noted")) (.type "type") "__init__" with
  | none => rw [e] at h3; cases h3
  | some r =>
    rw [e] at h3
    cases r with
    | val v => rw [of_decide_eq_true h3]
    | get a b c d => cases h3
theorem sc_Noted_init : FnScope ["self", "size", "limit"] ["self", "size", "limit"] (defScope s_Noted_init) := ⟨rfl, rfl, rfl, by decide +kernel, rfl, by decide +kernel, by decide +kernel⟩
theorem ok_Noted_init (T : Hd K mg) : BOk P w K mg base 1 "Noted" "__init__" ["self", "size", "limit"] (spNotedInit K) := by
  obtain ⟨fd, F⟩ := T.defD 10 rfl
  have F : FunD K "__init__" "Noted.__init__" (defArgs s_Noted_init) (defBody s_Noted_init) (defScope s_Noted_init) [] [] (He.fAd K ("Noted", some "__init__")) fd := F
  obtain ⟨c1, c2⟩ := exC_ok T.says.all.2.2
  refine ⟨He.ga K "Noted", _, fd, fnOk_of F sc_Noted_init (fun vs H Q E h => ?_) (fun cdv A outer s H vs Q E hr h => ?_), T.g_Noted, F.kp, F.bindsN (fun _ _ _ _ _ _ us hl => match us, hl with | [_, _, _], _ => rfl), c1, c2⟩
  · obtain ⟨p, dx, n, rfl, _⟩ := h; rfl
  · obtain ⟨p, dx, n, rfl, hp, q⟩ := h
    refine ⟨_, (pss_cons (ps_fld (pv 0) (pv 1) rfl)
      (pss_cons (ps_fld (pv 0) (pv 2) rfl)
      (pss_one (ps_fld (pv 0) (pe_lst pa_nil) rfl)))), ?_⟩
    refine ⟨_, rfl, _, rfl, p, _, dx, _, rfl, hp, T.c_Asker, T.n_Asker_size, by show 0 < 1000; decide, ?_⟩
    refine ⟨_, rfl, _, rfl, p, _, dx, _, rfl, upd_same, T.c_Asker, T.n_Asker_limit, by show 1 < 1000; decide, ?_⟩
    refine ⟨Nat.zero_le _, fun l hl => ?_⟩
    have npl : p ≠ l := ne_of_none upd_same hl
    have hl0 : H l = none := by rw [upd_ne npl.symm, upd_ne npl.symm] at hl; exact hl
    refine ⟨_, rfl, p, _, dx, _, rfl, by rw [upd_ne npl, upd_same], T.c_Asker, T.n_Asker_asks, by show 2 < 1000; decide, ?_⟩
    have f1 : Fr [p] H (upd H p (.ins (He.ga K "Asker") dx (putF "size" (vI n) []))) := Fr.put1 hp rfl
    have f2 := f1.trans (Fr.put1 (o := .ins (He.ga K "Asker") dx (putF "limit" .non (putF "size" (vI n) []))) upd_same rfl)
    have f3 := f2.trans (Fr.new (o := .lst []) hl)
    have f4 := f3.trans (Fr.put1 (o := .ins (He.ga K "Asker") dx (putF "asks" (.ref l) (putF "limit" .non (putF "size" (vI n) [])))) (by rw [upd_ne npl, upd_same]) rfl)
    refine q l _ hl0 f4 (by rw [upd_ne npl.symm, upd_same]) ?_
    rw [upd_same]
    rfl
theorem sc_Asker_init : FnScope ["self", "row", "order", "most"] ["self", "row", "order", "most"] (defScope s_Asker_init) := ⟨rfl, rfl, rfl, by decide +kernel, rfl, by decide +kernel, by decide +kernel⟩
theorem ok_Asker_init (T : Hd K mg) : KOk P w K mg base 5 (He.ga K "Asker") "Asker" ["self", "row", "order", "most"] (spAskerInit K) := by
  refine mkK T 15 61 87 rfl rfl rfl sc_Asker_init (fun _ _ _ _ _ _ us hl => match us, hl with | [_, _, _, _], _ => rfl) (fun vs H Q E h => ?_) (fun cdv A outer s H vs Q E hr h => ?_)
  · obtain ⟨p, dx, r, o, n, rk, rows, ord, rfl, _⟩ := h; rfl
  · obtain ⟨p, dx, r, o, n, rk, rows, ord, rfl, hp, hr0, ho, hok, hth, hc, q⟩ := h
    refine ⟨_, (pss_cons (ps_if (pt_not (pt_val (pe_cd (ok_is_row T) (hr.mono (by decide)) (pa_cons (pv 1) pa_nil))))
        (pss_one ps_never)
        pss_nil)
      (pss_cons (ps_if (pt_not (pt_val (pe_cd (ok_is_order T) (hr.mono (by decide)) (pa_cons (pv 2) pa_nil))))
        (pss_one ps_never)
        pss_nil)
      (pss_cons (ps_expr (pe_cd (ok_check_most T) (hr.mono (by decide)) (pa_cons (pv 3) pa_nil)))
      (pss_cons (ps_expr (pe_base (ok_Noted_init T) (hr.mono (by decide)) (pa_cons (pv 0) (pa_cons (pe_callB call_len_seq (by rfl) T.f_len (by decide +kernel) (pa_cons (pv 1) pa_nil)) (pa_cons (pv 3) pa_nil)))))
      (pss_cons (ps_fld (pv 0) (pv 1) rfl)
      (pss_one (ps_fld (pv 0) (pv 2) rfl))))))), ?_⟩
    have h60 : rows.length ≤ 60 := by rw [hc.len]; exact hc.n60
    refine ⟨_, rfl, r, rows, rfl, hr0, h60, hth, fun H1 f1 => ⟨true, rfl, ?_⟩⟩
    refine ⟨_, rfl, o, ord, rfl, ho.keep f1, hok, fun H2 f2 => ⟨true, rfl, ?_⟩⟩
    refine ⟨_, rfl, rfl, ?_⟩
    have hr2 := (hr0.keep f1).keep f2
    have ho2 := (ho.keep f1).keep f2
    obtain ⟨xs, hxs, hxl, _⟩ := id hr2
    refine ⟨_, rfl, _, rfl, r, _, rfl, .inr (SqT.of hxs), _, rfl, p, dx, xs.length, rfl, f2.keep _ _ (by simp) (f1.keep _ _ (by simp) hp), fun l H3 hl f3 hL hP => ?_⟩
    have npl : p ≠ l := ne_of hP hL (by intro z; cases z)
    refine ⟨_, rfl, _, rfl, p, _, dx, _, rfl, hP, T.c_Asker, T.n_Asker_row, by show 3 < 1000; decide, ?_⟩
    refine ⟨_, rfl, _, rfl, p, _, dx, _, rfl, upd_same, T.c_Asker, T.n_Asker_columns, by show 4 < 1000; decide, ?_⟩
    have hl0 : H l = none := f1.none (by simp) (f2.none (by simp) hl)
    have f4 := f3.trans (Fr.put1 (o := .ins (He.ga K "Asker") dx (putF "row" (.ref r) [("size", vI xs.length), ("limit", .non), ("asks", .ref l)])) hP rfl)
    have f5 := f4.trans (Fr.put1 (o := .ins (He.ga K "Asker") dx (putF "columns" (.ref o) (putF "row" (.ref r) [("size", vI xs.length), ("limit", .non), ("asks", .ref l)]))) upd_same rfl)
    have f6 := ((f1.trans f2).mono (ys := [p]) (fun b hb => by cases hb)).trans f5
    have en : xs.length = n := by rw [hxl]; exact hc.len
    refine q l _ hl0 f6 ⟨?_, ⟨[], by rw [upd_ne npl.symm, upd_ne npl.symm]; exact hL, rfl⟩, hr0.keep f6, ho.keep f6, hc⟩
    rw [← en, upd_same]
    rfl
/-- an asker is made -/
theorem make_asker {H : Hp} {Q : VK} {r o : Addr} {n : Nat} {rk : Nat → Nat} {rows : List Thing} {ord : Order} (hr : RowAt H r rows) (ho : OrdAt H o ord) (hok : OrdOk ord) (hth : ∀ t ∈ rows, ThingOk t) (hc : CmpOk n rows ord rk)
    (k : ∀ (c : AC) (H' : Hp), c.n = n → c.rk = rk → c.rows = rows → c.ord = ord → c.r = r → H c.p = none → H c.l = none → Fr [] H H' → AskAt K c 0 H' → Q (.ref c.p) H') :
    ∀ x dx, H x = none → H dx = none → dx ≠ x → spAskerInit K (.ref x :: [.ref r, .ref o, .non]) (upd (upd H dx (.own x)) x (.ins (He.ga K "Asker") dx [])) (fun v H2 => v = .non ∧ Q (.ref x) H2) E0 := by
  intro x dx nx nd ne
  have f0 : Fr [] H (upd (upd H dx (.own x)) x (.ins (He.ga K "Asker") dx [])) := (Fr.new nd).fresh nx
  refine ⟨x, dx, r, o, n, rk, rows, ord, rfl, upd_same, hr.keep f0, ho.keep f0, hok, hth, hc, fun l H' hl f ha => ⟨rfl, ?_⟩⟩
  have hl0 : H l = none := f0.none (by simp) hl
  refine k ⟨x, dx, l, r, o, n, rk, rows, ord⟩ H' rfl rfl rfl rfl rfl nx hl0 ?_ ha
  refine ((f0.mono (ys := [x]) (fun b hb => by cases hb)).trans f).drop fun b hb => .inr ?_
  have : b = x := by simpa using hb
  rw [this]; exact nx
end
end NR

set_option maxRecDepth 100000
set_option maxHeartbeats 4000000
/-! Places by halves and by leaps. -/
namespace NR
open PySem PySem.Spec PyProof.Rows L2 NM
/-- a line, a list or a tuple of numbers -/
def LnAt (c : AC) (H : Hp) (a : Addr) (l : List Nat) : Prop := H a = some (.tup (vL l)) ∨ (H a = some (.lst (vL l)) ∧ a ≠ c.l)
theorem LnAt.keep {c : AC} {H H' : Hp} {a : Addr} {l : List Nat} (h : LnAt c H a l) (f : Fr [c.l] H H') : LnAt c H' a l := by
  rcases h with h | ⟨h, n⟩
  · exact .inl (f.tup _ _ h)
  · exact .inr ⟨f.keep _ _ (by simpa using n) h, n⟩
theorem ln_ix {K : PySem.W.Frag} {c : AC} {H : Hp} {a : Addr} {l : List Nat} {i : Nat} {Q : VK} (h : LnAt c H a l) (hi : i < l.length) (q : Q (vI (l.getD i 0)) H) : rIx K (.ref a) (.int (i : Int)) H Q := by
  rcases h with h | ⟨h, _⟩
  · exact .inr (.inl ⟨a, _, _, _, rfl, rfl, SqT.of h, vL_at hi, q⟩)
  · exact .inl ⟨a, _, _, _, rfl, rfl, SqL.of h, vL_at hi, q⟩
theorem getD_lt {l : List Nat} {n i : Nat} (h : ∀ y ∈ l, y < n) (hi : i < l.length) : l.getD i 0 < n := h _ (getD_mem hi)
def spHalf (K : PySem.W.Frag) (g : (Nat → Nat) → List Nat → Nat → Nat → Nat → Nat × Nat) : Sp := fun vs H Q _ => ∃ (c : AC) (q : Nat) (a : Addr) (l : List Nat) (x s e : Nat), vs = [.ref c.p, .ref a, vI x, vI s, vI e] ∧ AskAt K c q H ∧ LnAt c H a l ∧ (∀ y ∈ l, y < c.n) ∧ x < c.n ∧ s ≤ e ∧ e ≤ l.length ∧
  q + (g c.rk l x s e).2 < 90000 ∧ ∀ H', Fr [c.l] H H' → AskAt K c (q + (g c.rk l x s e).2) H' → Q (vI (g c.rk l x s e).1) H'
def InvH (K : PySem.W.Frag) (g : (Nat → Nat) → List Nat → Nat → Nat → Nat → Nat × Nat) (c : AC) (q : Nat) (H : Hp) (a : Addr) (l : List Nat) (x s e : Nat) (m : Nat) (σ : L2.St) (H' : Hp) : Prop :=
  ∃ (s' e' q' : Nat) (z : Option V), m = e' - s' ∧ σ = [some (.ref c.p), some (.ref a), some (vI x), some (vI s'), some (vI e'), z] ∧ s' ≤ e' ∧ e' ≤ l.length ∧ Fr [c.l] H H' ∧ AskAt K c q' H' ∧
    (g c.rk l x s' e').1 = (g c.rk l x s e).1 ∧ q' + (g c.rk l x s' e').2 = q + (g c.rk l x s e).2
section
variable {P : Program} {w : World} {K : PySem.W.Frag} {mg : Str → Option Value} {base : Heap}
theorem sc_right_between : FnScope ["asker", "line", "x", "start", "end", "middle"] ["asker", "line", "x", "start", "end"] (defScope s_right_between) := ⟨rfl, rfl, rfl, by decide +kernel, rfl, by decide +kernel, by decide +kernel⟩
theorem ok_right_between (T : Hd K mg) : DOk P w K mg base 6 "right_between" ["asker", "line", "x", "start", "end"] (spHalf K rb) := by
  refine mkD T 18 11 rfl rfl sc_right_between (fun _ _ _ _ _ _ us hl => match us, hl with | [_, _, _, _, _], _ => rfl) (fun vs H Q E h => ?_) (fun cdv A outer s H vs Q E hr h => ?_)
  · obtain ⟨c, q, a, l, x, s, e, rfl, _⟩ := h; rfl
  · obtain ⟨c, n, a, l, x, s0, e0, rfl, ha, hln, hl, hx, hse, hel, hn, q⟩ := h
    refine ⟨_, (pss_cons (ps_while PassesOwn.never (pt_cmpR op_lt (pv 3) (pv 4) (nomark _))
        (pss_cons (ps_set (i := 5) sc_right_between.nd rfl (Or.inl rfl) (pe_op op_fdivNN (pe_op op_addN (pv 3) (pv 4)) pe_int))
        (pss_one (ps_if (pt_val (pe_md (ok_Asker_less T) (hr.mono (by decide)) (pv 0) (pa_cons (pv 2) (pa_cons (pe_ix ix_seq (pv 1) (pv 5) (fun _ _ => rfl)) pa_nil))))
          (pss_one (ps_set (i := 4) sc_right_between.nd rfl (Or.inl rfl) (pv 5)))
          (pss_one (ps_set (i := 3) sc_right_between.nd rfl (Or.inl rfl) (pe_op op_addN (pv 5) pe_int)))))))
      (pss_one (ps_ret (pv 3)))), ?_⟩
    refine ⟨InvH K rb c n H a l x s0 e0, ⟨_, s0, e0, n, none, rfl, rfl, hse, hel, Fr.refl _ _, ha, rfl, rfl⟩, ?_⟩
    rintro m σ H1 ⟨s1, e1, q1, z, rfl, rfl, h1, h2, f1, ha1, g1, g2⟩
    refine ⟨_, rfl, _, rfl, _, _, rfl, rfl, _, rfl, itD (fun lt => ?_) (fun nlt => ?_)⟩
    · have lt : s1 < e1 := by omega
      refine ⟨fun σ' H' => ∃ m', m' < e1 - s1 ∧ InvH K rb c n H a l x s0 e0 m' σ' H', fun _ _ h => h, ?_⟩
      refine ⟨_, rfl, _, rfl, s1, e1, rfl, rfl, s1 + e1, 2, rfl, rfl, ⟨by decide, by decide⟩, ?_⟩
      have hm : (s1 + e1) / 2 < l.length := by omega
      refine ⟨_, rfl, c.p, c.dx, _, rfl, ha1.hp, rfl, _, rfl, _, rfl, _, rfl, ?_⟩
      refine ln_ix (hln.keep f1) hm ?_
      have bound : 0 < (rb c.rk l x s1 e1).2 := by
        by_cases z : c.rk x < c.rk (l.getD ((s1 + e1) / 2) 0)
        · rw [rb_yes lt z]; exact Nat.succ_pos _
        · rw [rb_no lt z]; exact Nat.succ_pos _
      refine ⟨c, q1, x, _, rfl, ha1, hx, getD_lt hl hm, by omega, fun H2 f2 ha2 => ⟨_, rfl, itD (fun yes => ?_) (fun no => ?_)⟩⟩
      · rw [rb_yes lt yes] at g1 g2
        exact ⟨_, rfl, _, by omega, s1, (s1 + e1) / 2, q1 + 1, _, rfl, rfl, by omega, by omega, f1.trans f2, ha2, g1, by dsimp only at g2; omega⟩
      · rw [rb_no lt no] at g1 g2
        exact ⟨_, rfl, _, 1, rfl, rfl, _, by omega, (s1 + e1) / 2 + 1, e1, q1 + 1, _, rfl, rfl, by omega, by omega, f1.trans f2, ha2, g1, by dsimp only at g2; omega⟩
    · have lt : ¬ s1 < e1 := by omega
      rw [rb_end lt] at g1 g2
      refine ⟨_, rfl, ?_⟩
      show Q (vI s1) H1
      rw [show s1 = (rb c.rk l x s0 e0).1 from g1]
      exact q H1 f1 (by rw [← g2]; exact ha1)
theorem sc_left_between : FnScope ["asker", "line", "x", "start", "end", "middle"] ["asker", "line", "x", "start", "end"] (defScope s_left_between) := ⟨rfl, rfl, rfl, by decide +kernel, rfl, by decide +kernel, by decide +kernel⟩
theorem ok_left_between (T : Hd K mg) : DOk P w K mg base 6 "left_between" ["asker", "line", "x", "start", "end"] (spHalf K lb) := by
  refine mkD T 17 10 rfl rfl sc_left_between (fun _ _ _ _ _ _ us hl => match us, hl with | [_, _, _, _, _], _ => rfl) (fun vs H Q E h => ?_) (fun cdv A outer s H vs Q E hr h => ?_)
  · obtain ⟨c, q, a, l, x, s, e, rfl, _⟩ := h; rfl
  · obtain ⟨c, n, a, l, x, s0, e0, rfl, ha, hln, hl, hx, hse, hel, hn, q⟩ := h
    refine ⟨_, (pss_cons (ps_while PassesOwn.never (pt_cmpR op_lt (pv 3) (pv 4) (nomark _))
        (pss_cons (ps_set (i := 5) sc_left_between.nd rfl (Or.inl rfl) (pe_op op_fdivNN (pe_op op_addN (pv 3) (pv 4)) pe_int))
        (pss_one (ps_if (pt_val (pe_md (ok_Asker_less T) (hr.mono (by decide)) (pv 0) (pa_cons (pe_ix ix_seq (pv 1) (pv 5) (fun _ _ => rfl)) (pa_cons (pv 2) pa_nil))))
          (pss_one (ps_set (i := 3) sc_left_between.nd rfl (Or.inl rfl) (pe_op op_addN (pv 5) pe_int)))
          (pss_one (ps_set (i := 4) sc_left_between.nd rfl (Or.inl rfl) (pv 5)))))))
      (pss_one (ps_ret (pv 3)))), ?_⟩
    refine ⟨InvH K lb c n H a l x s0 e0, ⟨_, s0, e0, n, none, rfl, rfl, hse, hel, Fr.refl _ _, ha, rfl, rfl⟩, ?_⟩
    rintro m σ H1 ⟨s1, e1, q1, z, rfl, rfl, h1, h2, f1, ha1, g1, g2⟩
    refine ⟨_, rfl, _, rfl, _, _, rfl, rfl, _, rfl, itD (fun lt => ?_) (fun nlt => ?_)⟩
    · have lt : s1 < e1 := by omega
      refine ⟨fun σ' H' => ∃ m', m' < e1 - s1 ∧ InvH K lb c n H a l x s0 e0 m' σ' H', fun _ _ h => h, ?_⟩
      refine ⟨_, rfl, _, rfl, s1, e1, rfl, rfl, s1 + e1, 2, rfl, rfl, ⟨by decide, by decide⟩, ?_⟩
      have hm : (s1 + e1) / 2 < l.length := by omega
      refine ⟨_, rfl, c.p, c.dx, _, rfl, ha1.hp, rfl, _, rfl, _, rfl, ?_⟩
      refine ln_ix (hln.keep f1) hm ?_
      have bound : 0 < (lb c.rk l x s1 e1).2 := by
        by_cases z : c.rk (l.getD ((s1 + e1) / 2) 0) < c.rk x
        · rw [lb_yes lt z]; exact Nat.succ_pos _
        · rw [lb_no lt z]; exact Nat.succ_pos _
      refine ⟨_, rfl, c, q1, _, x, rfl, ha1, getD_lt hl hm, hx, by omega, fun H2 f2 ha2 => ⟨_, rfl, itD (fun yes => ?_) (fun no => ?_)⟩⟩
      · rw [lb_yes lt yes] at g1 g2
        exact ⟨_, rfl, _, 1, rfl, rfl, _, by omega, (s1 + e1) / 2 + 1, e1, q1 + 1, _, rfl, rfl, by omega, by omega, f1.trans f2, ha2, g1, by dsimp only at g2; omega⟩
      · rw [lb_no lt no] at g1 g2
        exact ⟨_, rfl, _, by omega, s1, (s1 + e1) / 2, q1 + 1, _, rfl, rfl, by omega, by omega, f1.trans f2, ha2, g1, by dsimp only at g2; omega⟩
    · have lt : ¬ s1 < e1 := by omega
      rw [lb_end lt] at g1 g2
      refine ⟨_, rfl, ?_⟩
      show Q (vI s1) H1
      rw [show s1 = (lb c.rk l x s0 e0).1 from g1]
      exact q H1 f1 (by rw [← g2]; exact ha1)
end
end NR

set_option maxRecDepth 100000
set_option maxHeartbeats 4000000
/-! Places by leaps; two lines poured together. -/
namespace NR
open PySem PySem.Spec PyProof.Rows L2 NM
def spLeap (K : PySem.W.Frag) (g : (Nat → Nat) → List Nat → Nat → Nat → Nat → Nat × Nat) : Sp := fun vs H Q _ => ∃ (c : AC) (q : Nat) (a : Addr) (l : List Nat) (x : Nat), vs = [.ref c.p, .ref a, vI x] ∧ AskAt K c q H ∧ H a = some (.tup (vL l)) ∧ (∀ y ∈ l, y < c.n) ∧ x < c.n ∧
  q + (g c.rk l x 0 0).2 < 90000 ∧ ∀ H', Fr [c.l] H H' → AskAt K c (q + (g c.rk l x 0 0).2) H' → Q (vI (g c.rk l x 0 0).1) H'
def InvL (K : PySem.W.Frag) (g : (Nat → Nat) → List Nat → Nat → Nat → Nat → Nat × Nat) (c : AC) (q : Nat) (H : Hp) (a : Addr) (l : List Nat) (x : Nat) (m : Nat) (σ : L2.St) (H' : Hp) : Prop :=
  ∃ (s p q' : Nat), m = l.length - p ∧ σ = [some (.ref c.p), some (.ref a), some (vI x), some (vI s), some (vI p)] ∧ s ≤ p ∧ s ≤ l.length ∧ Fr [c.l] H H' ∧ AskAt K c q' H' ∧
    (g c.rk l x s p).1 = (g c.rk l x 0 0).1 ∧ q' + (g c.rk l x s p).2 = q + (g c.rk l x 0 0).2
section
variable {P : Program} {w : World} {K : PySem.W.Frag} {mg : Str → Option Value} {base : Heap}
theorem sc_right_leap : FnScope ["asker", "line", "x", "start", "place"] ["asker", "line", "x"] (defScope s_right_leap) := ⟨rfl, rfl, rfl, by decide +kernel, rfl, by decide +kernel, by decide +kernel⟩
theorem ok_right_leap (T : Hd K mg) : DOk P w K mg base 7 "right_leap" ["asker", "line", "x"] (spLeap K rl) := by
  refine mkD T 19 12 rfl rfl sc_right_leap (fun _ _ _ _ _ _ us hl => match us, hl with | [_, _, _], _ => rfl) (fun vs H Q E h => ?_) (fun cdv A outer s H vs Q E hr h => ?_)
  · obtain ⟨c, q, a, l, x, rfl, _⟩ := h; rfl
  · obtain ⟨c, n, a, l, x, rfl, ha, hln, hl, hx, hn, q⟩ := h
    refine ⟨_, (pss_cons (ps_asg (pe_tup (pa_cons pe_int (pa_cons pe_int pa_nil))) (pg_tup rfl (pgs_cons (pg_name (i := 3) sc_right_leap.nd rfl (Or.inl rfl)) (pgs_cons (pg_name (i := 4) sc_right_leap.nd rfl (Or.inl rfl)) pgs_nil))))
      (pss_cons (ps_while PassesOwn.never (pt_cmpR op_lt (pv 4) (pe_callB call_len_seq (by rfl) T.f_len (by decide +kernel) (pa_cons (pv 1) pa_nil)) (nomark _))
        (pss_cons (ps_if (pt_val (pe_md (ok_Asker_less T) (hr.mono (by decide)) (pv 0) (pa_cons (pv 2) (pa_cons (pe_ix ix_tup (pv 1) (pv 4) (fun _ _ => rfl)) pa_nil))))
          (pss_one (ps_ret (pe_cd (ok_right_between T) (hr.mono (by decide)) (pa_cons (pv 0) (pa_cons (pv 1) (pa_cons (pv 2) (pa_cons (pv 3) (pa_cons (pv 4) pa_nil))))))))
          pss_nil)
        (pss_cons (ps_set (i := 3) sc_right_leap.nd rfl (Or.inl rfl) (pe_op op_addN (pv 4) pe_int))
        (pss_one (ps_set (i := 4) sc_right_leap.nd rfl (Or.inl rfl) (pe_op op_addN (pe_op op_mulN pe_int (pv 4)) pe_int))))))
      (pss_one (ps_ret (pe_cd (ok_right_between T) (hr.mono (by decide)) (pa_cons (pv 0) (pa_cons (pv 1) (pa_cons (pv 2) (pa_cons (pv 3) (pa_cons (pe_callB call_len_seq (by rfl) T.f_len (by decide +kernel) (pa_cons (pv 1) pa_nil)) pa_nil)))))))))), ?_⟩
    refine ⟨by show 2 ≤ sizeLine; decide, fun t ht => ⟨t, _, rfl, SqT.of upd_same, rfl, _, _, rfl, _, _, rfl, rfl, ?_⟩⟩
    refine ⟨InvL K rl c n H a l x, ⟨_, 0, 0, n, rfl, rfl, Nat.le_refl _, Nat.zero_le _, Fr.new ht, ha.keep0 (Fr.new ht), rfl, rfl⟩, ?_⟩
    rintro m σ H1 ⟨s1, p1, q1, rfl, rfl, h1, h2, f1, ha1, g1, g2⟩
    have hln1 := f1.tup _ _ hln
    refine ⟨_, rfl, _, rfl, a, _, rfl, .inr (SqT.of hln1), _, _, rfl, rfl, _, rfl, itD (fun lt => ?_) (fun nlt => ?_)⟩
    · rw [vL_length] at lt
      have lt : p1 < l.length := by omega
      refine ⟨fun σ' H' => ∃ m', m' < l.length - p1 ∧ InvL K rl c n H a l x m' σ' H', fun _ _ h => h, ?_⟩
      refine ⟨_, rfl, c.p, c.dx, _, rfl, ha1.hp, rfl, _, rfl, _, rfl, _, rfl, ?_⟩
      refine ⟨a, _, _, _, rfl, rfl, SqT.of hln1, vL_at lt, ?_⟩
      have bound : 0 < (rl c.rk l x s1 p1).2 := by
        by_cases z : c.rk x < c.rk (l.getD p1 0)
        · rw [rl_yes lt z]; exact Nat.succ_pos _
        · rw [rl_no lt z]; exact Nat.succ_pos _
      refine ⟨c, q1, x, _, rfl, ha1, hx, getD_lt hl lt, by omega, fun H2 f2 ha2 => ⟨_, rfl, itD (fun yes => ?_) (fun no => ?_)⟩⟩
      · rw [rl_yes lt yes] at g1 g2
        dsimp only at g1 g2
        refine ⟨_, rfl, _, rfl, _, rfl, _, rfl, _, rfl, c, q1 + 1, a, l, x, s1, p1, rfl, ha2, .inl (f2.tup _ _ hln1), hl, hx, h1, by omega, by omega, fun H3 f3 ha3 => ?_⟩
        rw [g1]
        exact q H3 ((f1.trans f2).trans f3) (by rw [← g2, show q1 + ((rb c.rk l x s1 p1).2 + 1) = q1 + 1 + (rb c.rk l x s1 p1).2 by omega]; exact ha3)
      · rw [rl_no lt no] at g1 g2
        refine ⟨_, rfl, p1, 1, rfl, rfl, _, rfl, 2, p1, rfl, rfl, by decide, 2 * p1, 1, rfl, rfl, ?_⟩
        exact ⟨_, by omega, p1 + 1, 2 * p1 + 1, q1 + 1, rfl, rfl, by omega, by omega, f1.trans f2, ha2, g1, by dsimp only at g2; omega⟩
    · rw [vL_length] at nlt
      have lt : ¬ p1 < l.length := by omega
      rw [rl_end lt] at g1 g2
      refine ⟨_, rfl, _, rfl, _, rfl, _, rfl, _, rfl, a, _, rfl, .inr (SqT.of hln1), c, q1, a, l, x, s1, (vL l).length, rfl, ha1, .inl hln1, hl, hx, by rw [vL_length]; exact h2, by rw [vL_length]; exact Nat.le_refl _, by rw [vL_length]; omega, fun H3 f3 ha3 => ?_⟩
      rw [vL_length] at ha3 ⊢
      rw [g1]
      exact q H3 (f1.trans f3) (by rw [← g2]; exact ha3)
theorem sc_left_leap : FnScope ["asker", "line", "x", "start", "place"] ["asker", "line", "x"] (defScope s_left_leap) := ⟨rfl, rfl, rfl, by decide +kernel, rfl, by decide +kernel, by decide +kernel⟩
theorem ok_left_leap (T : Hd K mg) : DOk P w K mg base 7 "left_leap" ["asker", "line", "x"] (spLeap K ll) := by
  refine mkD T 20 13 rfl rfl sc_left_leap (fun _ _ _ _ _ _ us hl => match us, hl with | [_, _, _], _ => rfl) (fun vs H Q E h => ?_) (fun cdv A outer s H vs Q E hr h => ?_)
  · obtain ⟨c, q, a, l, x, rfl, _⟩ := h; rfl
  · obtain ⟨c, n, a, l, x, rfl, ha, hln, hl, hx, hn, q⟩ := h
    refine ⟨_, (pss_cons (ps_asg (pe_tup (pa_cons pe_int (pa_cons pe_int pa_nil))) (pg_tup rfl (pgs_cons (pg_name (i := 3) sc_left_leap.nd rfl (Or.inl rfl)) (pgs_cons (pg_name (i := 4) sc_left_leap.nd rfl (Or.inl rfl)) pgs_nil))))
      (pss_cons (ps_while PassesOwn.never (pt_cmpR op_lt (pv 4) (pe_callB call_len_seq (by rfl) T.f_len (by decide +kernel) (pa_cons (pv 1) pa_nil)) (nomark _))
        (pss_cons (ps_if (pt_not (pt_val (pe_md (ok_Asker_less T) (hr.mono (by decide)) (pv 0) (pa_cons (pe_ix ix_tup (pv 1) (pv 4) (fun _ _ => rfl)) (pa_cons (pv 2) pa_nil)))))
          (pss_one (ps_ret (pe_cd (ok_left_between T) (hr.mono (by decide)) (pa_cons (pv 0) (pa_cons (pv 1) (pa_cons (pv 2) (pa_cons (pv 3) (pa_cons (pv 4) pa_nil))))))))
          pss_nil)
        (pss_cons (ps_set (i := 3) sc_left_leap.nd rfl (Or.inl rfl) (pe_op op_addN (pv 4) pe_int))
        (pss_one (ps_set (i := 4) sc_left_leap.nd rfl (Or.inl rfl) (pe_op op_addN (pe_op op_mulN pe_int (pv 4)) pe_int))))))
      (pss_one (ps_ret (pe_cd (ok_left_between T) (hr.mono (by decide)) (pa_cons (pv 0) (pa_cons (pv 1) (pa_cons (pv 2) (pa_cons (pv 3) (pa_cons (pe_callB call_len_seq (by rfl) T.f_len (by decide +kernel) (pa_cons (pv 1) pa_nil)) pa_nil)))))))))), ?_⟩
    refine ⟨by show 2 ≤ sizeLine; decide, fun t ht => ⟨t, _, rfl, SqT.of upd_same, rfl, _, _, rfl, _, _, rfl, rfl, ?_⟩⟩
    refine ⟨InvL K ll c n H a l x, ⟨_, 0, 0, n, rfl, rfl, Nat.le_refl _, Nat.zero_le _, Fr.new ht, ha.keep0 (Fr.new ht), rfl, rfl⟩, ?_⟩
    rintro m σ H1 ⟨s1, p1, q1, rfl, rfl, h1, h2, f1, ha1, g1, g2⟩
    have hln1 := f1.tup _ _ hln
    refine ⟨_, rfl, _, rfl, a, _, rfl, .inr (SqT.of hln1), _, _, rfl, rfl, _, rfl, itD (fun lt => ?_) (fun nlt => ?_)⟩
    · rw [vL_length] at lt
      have lt : p1 < l.length := by omega
      refine ⟨fun σ' H' => ∃ m', m' < l.length - p1 ∧ InvL K ll c n H a l x m' σ' H', fun _ _ h => h, ?_⟩
      refine ⟨_, rfl, c.p, c.dx, _, rfl, ha1.hp, rfl, _, rfl, _, rfl, ?_⟩
      refine ⟨a, _, _, _, rfl, rfl, SqT.of hln1, vL_at lt, ?_⟩
      have bound : 0 < (ll c.rk l x s1 p1).2 := by
        by_cases z : c.rk (l.getD p1 0) < c.rk x
        · rw [ll_yes lt z]; exact Nat.succ_pos _
        · rw [ll_no lt z]; exact Nat.succ_pos _
      refine ⟨_, rfl, c, q1, _, x, rfl, ha1, getD_lt hl lt, hx, by omega, fun H2 f2 ha2 => ⟨_, rfl, itN (fun no => ?_) (fun yes => ?_)⟩⟩
      · rw [ll_no lt no] at g1 g2
        dsimp only at g1 g2
        refine ⟨_, rfl, _, rfl, _, rfl, _, rfl, _, rfl, c, q1 + 1, a, l, x, s1, p1, rfl, ha2, .inl (f2.tup _ _ hln1), hl, hx, h1, by omega, by omega, fun H3 f3 ha3 => ?_⟩
        rw [g1]
        exact q H3 ((f1.trans f2).trans f3) (by rw [← g2, show q1 + ((lb c.rk l x s1 p1).2 + 1) = q1 + 1 + (lb c.rk l x s1 p1).2 by omega]; exact ha3)
      · rw [ll_yes lt yes] at g1 g2
        refine ⟨_, rfl, p1, 1, rfl, rfl, _, rfl, 2, p1, rfl, rfl, by decide, 2 * p1, 1, rfl, rfl, ?_⟩
        exact ⟨_, by omega, p1 + 1, 2 * p1 + 1, q1 + 1, rfl, rfl, by omega, by omega, f1.trans f2, ha2, g1, by dsimp only at g2; omega⟩
    · rw [vL_length] at nlt
      have lt : ¬ p1 < l.length := by omega
      rw [ll_end lt] at g1 g2
      refine ⟨_, rfl, _, rfl, _, rfl, _, rfl, _, rfl, a, _, rfl, .inr (SqT.of hln1), c, q1, a, l, x, s1, (vL l).length, rfl, ha1, .inl hln1, hl, hx, by rw [vL_length]; exact h2, by rw [vL_length]; exact Nat.le_refl _, by rw [vL_length]; omega, fun H3 f3 ha3 => ?_⟩
      rw [vL_length] at ha3 ⊢
      rw [g1]
      exact q H3 (f1.trans f3) (by rw [← g2]; exact ha3)
end
end NR

set_option maxRecDepth 100000
set_option maxHeartbeats 4000000
/-! Data compared; slices and sums of tuples; two lines poured together. -/
namespace NR
open PySem PySem.Spec PyProof.Rows L2 NM
/-! ### data: tuples and lists of numbers -/
def dI (l : List Nat) : List PyData := l.map fun n : Nat => PyData.int (n : Int)
theorem dp_all {K : PySem.W.Frag} {H : Hp} : ∀ l : List Nat, DpAll K H (vL l) (dI l)
  | [] => .nil
  | n :: l => .cons (.int _) (dp_all l)
theorem dp_tup {K : PySem.W.Frag} {H : Hp} {a : Addr} {l : List Nat} (h : H a = some (.tup (vL l))) : Dp K H (.ref a) (.tuple (dI l)) := .tup (SqT.of h) (dp_all l)
theorem dp_lst {K : PySem.W.Frag} {H : Hp} {a : Addr} {l : List Nat} (h : H a = some (.lst (vL l))) : Dp K H (.ref a) (.list (dI l)) := .lst (SqL.of h) (dp_all l)
theorem lay_all : ∀ l : List Nat, PyData.canLayAll0 (dI l) = true
  | [] => rfl
  | n :: l => by
    show (PyData.canLay0 (.int (n : Int)) && PyData.canLayAll0 (dI l)) = true
    rw [lay_all l]; rfl
theorem dep_all : ∀ l : List Nat, PyData.depthAll (dI l) = 0
  | [] => rfl
  | n :: l => by
    show max (PyData.depth (.int (n : Int))) (PyData.depthAll (dI l)) = 0
    rw [dep_all l]; rfl
theorem sh_tup (l : List Nat) : SeqAt.shaped (.tuple (dI l)) = true := by
  show (PyData.canLayAll0 (dI l) && decide (PyData.depthAll (dI l) + 1 ≤ 64)) = true
  rw [lay_all, dep_all]; rfl
theorem sh_lst (l : List Nat) : SeqAt.shaped (.list (dI l)) = true := by
  show (PyData.canLayAll0 (dI l) && decide (PyData.depthAll (dI l) + 1 ≤ 64)) = true
  rw [lay_all, dep_all]; rfl
theorem eqv_all : ∀ l m : List Nat, PyData.eqvAll (dI l) (dI m) = decide (l = m)
  | [], [] => rfl
  | [], b :: m => rfl
  | a :: l, [] => rfl
  | a :: l, b :: m => by
    show (((a : Int) == (b : Int)) && PyData.eqvAll (dI l) (dI m)) = decide (a :: l = b :: m)
    rw [eqv_all l m]
    by_cases h1 : a = b
    · subst h1
      by_cases h2 : l = m
      · subst h2; simp
      · rw [decide_eq_false h2, decide_eq_false (by simp [h2])]; simp
    · rw [decide_eq_false (fun z => h1 (List.cons.inj z).1), beq_eq_false_iff_ne.mpr (by omega)]
      rfl
theorem eqv_tup (l m : List Nat) : PyData.eqv (.tuple (dI l)) (.tuple (dI m)) = decide (l = m) := eqv_all l m
theorem eqv_lst (l m : List Nat) : PyData.eqv (.list (dI l)) (.list (dI m)) = decide (l = m) := eqv_all l m
/-- a tuple against another one -/
theorem ne_tup {K : PySem.W.Frag} {H : Hp} {a b : Addr} {l m : List Nat} {Q : VK} (h1 : H a = some (.tup (vL l))) (h2 : H b = some (.tup (vL m))) (q : Q (.bl (!decide (l = m))) H) : rNeD K (.ref a) (.ref b) H Q :=
  ⟨_, _, dp_tup h1, dp_tup h2, sh_tup l, sh_tup m, by rw [eqv_tup]; exact q⟩
theorem eq_tup {K : PySem.W.Frag} {H : Hp} {a b : Addr} {l m : List Nat} {Q : VK} (h1 : H a = some (.tup (vL l))) (h2 : H b = some (.tup (vL m))) (q : Q (.bl (decide (l = m))) H) : rEqD K (.ref a) (.ref b) H Q :=
  ⟨_, _, dp_tup h1, dp_tup h2, sh_tup l, sh_tup m, by rw [eqv_tup]; exact q⟩
theorem ne_lst {K : PySem.W.Frag} {H : Hp} {a b : Addr} {l m : List Nat} {Q : VK} (h1 : H a = some (.lst (vL l))) (h2 : H b = some (.lst (vL m))) (q : Q (.bl (!decide (l = m))) H) : rNeD K (.ref a) (.ref b) H Q :=
  ⟨_, _, dp_lst h1, dp_lst h2, sh_lst l, sh_lst m, by rw [eqv_lst]; exact q⟩
theorem eq_lst {K : PySem.W.Frag} {H : Hp} {a b : Addr} {l m : List Nat} {Q : VK} (h1 : H a = some (.lst (vL l))) (h2 : H b = some (.lst (vL m))) (q : Q (.bl (decide (l = m))) H) : rEqD K (.ref a) (.ref b) H Q :=
  ⟨_, _, dp_lst h1, dp_lst h2, sh_lst l, sh_lst m, by rw [eqv_lst]; exact q⟩
/-! ### slices, sums -/
theorem vL_drop (l : List Nat) (i : Nat) : (vL l).drop i = vL (l.drop i) := by unfold vL; rw [List.map_drop]
theorem vL_take (l : List Nat) (i : Nat) : (vL l).take i = vL (l.take i) := by unfold vL; rw [List.map_take]
theorem vL_append (l m : List Nat) : vL l ++ vL m = vL (l ++ m) := by unfold vL; rw [List.map_append]
theorem vL_nil {l : List Nat} : vL l = [] ↔ l = [] := by unfold vL; exact List.map_eq_nil_iff
theorem cut_from (xs : List V) (i : Nat) (h : i ≤ xs.length) : cutV xs (some (i : Int)) none = xs.drop i := by
  unfold cutV
  rw [HT.sIx_none, HT.sIx_nat, Nat.min_eq_left h]
  exact List.take_of_length_le (by rw [List.length_drop]; exact Nat.le_refl _)
theorem cut_to (xs : List V) (i : Nat) (h : i ≤ xs.length) : cutV xs none (some (i : Int)) = xs.take i := by
  unfold cutV
  rw [HT.sIx_none, HT.sIx_nat, Nat.min_eq_left h, List.drop_zero, Nat.sub_zero]
theorem sl_from {K : PySem.W.Frag} {H : Hp} {a : Addr} {l : List Nat} {i : Nat} {Q : VK} (h : H a = some (.tup (vL l))) (hi : i ≤ l.length) (q : ∀ t H', Fr [] H H' → H' t = some (.tup (vL (l.drop i))) → Q (.ref t) H') : rSlA K (.ref a) (some (i : Int)) none H Q := by
  refine ⟨a, _, rfl, SqT.of h, fun hw => ?_, fun _ p hp => ?_⟩
  · rw [vL_length, HT.sIx_nat, Nat.min_eq_left hi] at hw
    refine q a H (Fr.refl _ _) ?_
    rw [hw.1, List.drop_zero]; exact h
  · refine q p _ (Fr.new hp) ?_
    rw [upd_same, cut_from _ _ (by rw [vL_length]; exact hi), vL_drop]
theorem sl_fromN {K : PySem.W.Frag} {σ : L2.St} {H : Hp} {a : Addr} {l : List Nat} {i : Nat} {Q : VK} (h : H a = some (.tup (vL l))) (hi : i ≤ l.length) (q : ∀ t H', Fr [] H H' → H' t = some (.tup (vL (l.drop i))) → Q (.ref t) H') : tNoPart σ H fun u H3 => rSlA K (.ref a) (some (i : Int)) u H3 Q := sl_from h hi q
theorem sl_to {K : PySem.W.Frag} {H : Hp} {a : Addr} {l : List Nat} {i : Nat} {Q : VK} (h : H a = some (.tup (vL l))) (hi : i ≤ l.length) (q : ∀ t H', Fr [] H H' → H' t = some (.tup (vL (l.take i))) → Q (.ref t) H') : rSlA K (.ref a) none (some (i : Int)) H Q := by
  refine ⟨a, _, rfl, SqT.of h, fun hw => ?_, fun _ p hp => ?_⟩
  · rw [vL_length, HT.sIx_none, HT.sIx_nat, Nat.min_eq_left hi] at hw
    refine q a H (Fr.refl _ _) ?_
    rw [hw.2, List.take_length]; exact h
  · refine q p _ (Fr.new hp) ?_
    rw [upd_same, cut_to _ _ (by rw [vL_length]; exact hi), vL_take]
theorem cat_tup {K : PySem.W.Frag} {H : Hp} {a b : Addr} {l m : List Nat} {Q : VK} (h1 : H a = some (.tup (vL l))) (h2 : H b = some (.tup (vL m))) (hl : l.length + m.length ≤ 100000) (q : ∀ t H', Fr [] H H' → H' t = some (.tup (vL (l ++ m))) → Q (.ref t) H') : rCatA K (.ref a) (.ref b) H Q := by
  refine ⟨a, b, _, _, rfl, rfl, SqT.of h1, SqT.of h2, by rw [vL_length, vL_length]; exact sz_small hl, fun e => ?_, fun _ e => ?_, fun _ _ p hp => ?_⟩
  · refine q b H (Fr.refl _ _) ?_
    rw [vL_nil.mp e]; exact h2
  · refine q a H (Fr.refl _ _) ?_
    rw [vL_nil.mp e, List.append_nil]; exact h1
  · refine q p _ (Fr.new hp) ?_
    rw [upd_same, vL_append]
/-! ### promises -/
def manS (b : Bool) : Str := if b = true then "leaps" else "plain"
theorem man_in2 : inV (.str "leaps") [.str "plain", .str "leaps"] = true ∧ inV (.str "plain") [.str "plain", .str "leaps"] = true := by decide +kernel
theorem man_in (b : Bool) : inV (.str (manS b)) [.str "plain", .str "leaps"] = true := by
  cases b
  · exact man_in2.2
  · exact man_in2.1
theorem man_eq (b : Bool) : decide (V.str (manS b) = V.str "leaps") = b := by
  cases b
  · show decide (V.str "plain" = V.str "leaps") = false
    decide +kernel
  · show decide (V.str "leaps" = V.str "leaps") = true
    decide +kernel
def spCheckManner : Sp := fun vs H Q _ => ∃ b : Bool, vs = [.str (manS b)] ∧ ∀ H', Fr [] H H' → Q .non H'
def spPour (K : PySem.W.Frag) (g : (Nat → Nat) → List Nat → List Nat → List Nat × Nat) : Sp := fun vs H Q _ => ∃ (c : AC) (q : Nat) (a b : Addr) (l o : List Nat), vs = [.ref c.p, .ref a, .ref b] ∧ AskAt K c q H ∧ H a = some (.tup (vL l)) ∧ H b = some (.tup (vL o)) ∧
  (∀ y ∈ l, y < c.n) ∧ (∀ y ∈ o, y < c.n) ∧ l.length + o.length ≤ 1000 ∧ q + (g c.rk l o).2 < 90000 ∧ ∀ t H', Fr [c.l] H H' → AskAt K c (q + (g c.rk l o).2) H' → H' t = some (.tup (vL (g c.rk l o).1)) → Q (.ref t) H'
def InvPP (K : PySem.W.Frag) (c : AC) (q : Nat) (H : Hp) (a b L : Addr) (l o : List Nat) (m : Nat) (σ : L2.St) (H' : Hp) : Prop :=
  ∃ (i j q' : Nat) (out : List Nat), m = (l.length - i) + (o.length - j) ∧ σ = [some (.ref c.p), some (.ref a), some (.ref b), some (.ref L), some (vI i), some (vI j)] ∧ i ≤ l.length ∧ j ≤ o.length ∧ out.length = i + j ∧ Fr [c.l, L] H H' ∧ AskAt K c q' H' ∧ H' L = some (.lst (vL out)) ∧
    out ++ (pl c.rk (l.drop i) (o.drop j)).1 = (pl c.rk l o).1 ∧ q' + (pl c.rk (l.drop i) (o.drop j)).2 = q + (pl c.rk l o).2
theorem drop_head {l : List Nat} {i : Nat} (h : i < l.length) : l.drop i = l.getD i 0 :: l.drop (i + 1) := drop_get h
section
variable {P : Program} {w : World} {K : PySem.W.Frag} {mg : Str → Option Value} {base : Heap}
theorem sc_check_manner : FnScope ["manner"] ["manner"] (defScope s_check_manner) := ⟨rfl, rfl, rfl, by decide +kernel, rfl, by decide +kernel, by decide +kernel⟩
theorem ok_check_manner (T : Hd K mg) : DOk P w K mg base 1 "check_manner" ["manner"] spCheckManner := by
  refine mkD T 21 14 rfl rfl sc_check_manner (fun _ _ _ _ _ _ us hl => match us, hl with | [_], _ => rfl) (fun vs H Q E h => ?_) (fun cdv A outer s H vs Q E hr h => ?_)
  · obtain ⟨b, rfl, _⟩ := h; rfl
  · obtain ⟨b, rfl, q⟩ := h
    refine ⟨_, (pss_one (ps_if (pt_cmpR op_notIn_seq (pv 0) (pe_tup (pa_cons pe_str (pa_cons pe_str pa_nil))) rfl)
        (pss_one ps_never)
        pss_nil)), ?_⟩
    refine ⟨_, rfl, by show 2 ≤ sizeLine; decide, fun t ht => ⟨t, _, rfl, .inr (SqT.of upd_same), rfl, rfl, false, ?_, ?_⟩⟩
    · show V.bl (if true = true then !inV (.str (manS b)) [.str "plain", .str "leaps"] else _) = _
      rw [man_in]; rfl
    · exact q _ (Fr.new ht)
theorem sc_pour_plainly : FnScope ["asker", "one", "other", "line", "at", "to"] ["asker", "one", "other"] (defScope s_pour_plainly) := ⟨rfl, rfl, rfl, by decide +kernel, rfl, by decide +kernel, by decide +kernel⟩
theorem ok_pour_plainly (T : Hd K mg) : DOk P w K mg base 6 "pour_plainly" ["asker", "one", "other"] (spPour K pl) := by
  refine mkD T 22 15 rfl rfl sc_pour_plainly (fun _ _ _ _ _ _ us hl => match us, hl with | [_, _, _], _ => rfl) (fun vs H Q E h => ?_) (fun cdv A outer s H vs Q E hr h => ?_)
  · obtain ⟨c, q, a, b, l, o, rfl, _⟩ := h; rfl
  · obtain ⟨c, n, a, b, l, o, rfl, ha, hA, hB, hl, ho, hlen, hn, q⟩ := h
    refine ⟨_, (pss_cons (ps_set (i := 3) sc_pour_plainly.nd rfl (Or.inl rfl) (pe_lst pa_nil))
      (pss_cons (ps_asg (pe_tup (pa_cons pe_int (pa_cons pe_int pa_nil))) (pg_tup rfl (pgs_cons (pg_name (i := 4) sc_pour_plainly.nd rfl (Or.inl rfl)) (pgs_cons (pg_name (i := 5) sc_pour_plainly.nd rfl (Or.inl rfl)) pgs_nil))))
      (pss_cons (ps_while PassesOwn.never (PW.pt (pw_and (pt_cmpR op_lt (pv 4) (pe_callB call_len_seq (by rfl) T.f_len (by decide +kernel) (pa_cons (pv 1) pa_nil)) (nomark _)) (pw_and1 (pt_cmpR op_lt (pv 5) (pe_callB call_len_seq (by rfl) T.f_len (by decide +kernel) (pa_cons (pv 2) pa_nil)) (nomark _)))))
        (pss_one (ps_if (pt_val (pe_md (ok_Asker_less T) (hr.mono (by decide)) (pv 0) (pa_cons (pe_ix ix_tup (pv 2) (pv 5) (fun _ _ => rfl)) (pa_cons (pe_ix ix_tup (pv 1) (pv 4) (fun _ _ => rfl)) pa_nil))))
          (pss_cons (ps_expr (pe_bm PySem.F.plainAttrs_list PySem.F.slot_list_append PySem.F.type_list_append mt_append (pv 3) (pa_cons (pe_ix ix_tup (pv 2) (pv 5) (fun _ _ => rfl)) pa_nil)))
          (pss_one (ps_set (i := 5) sc_pour_plainly.nd rfl (Or.inl rfl) (pe_op op_addN (pv 5) pe_int))))
          (pss_cons (ps_expr (pe_bm PySem.F.plainAttrs_list PySem.F.slot_list_append PySem.F.type_list_append mt_append (pv 3) (pa_cons (pe_ix ix_tup (pv 1) (pv 4) (fun _ _ => rfl)) pa_nil)))
          (pss_one (ps_set (i := 4) sc_pour_plainly.nd rfl (Or.inl rfl) (pe_op op_addN (pv 4) pe_int)))))))
      (pss_one (ps_ret (pe_op op_catA (pe_op op_catA (pe_callTy call_tuple_of (by rfl) T.f_tuple (by decide +kernel) (pa_cons (pv 3) pa_nil)) (pe_slice sl_tupA (pv 1) (po_some (pv 4)) po_none)) (pe_slice sl_tupA (pv 2) (po_some (pv 5)) po_none))))))), ?_⟩
    refine ⟨Nat.zero_le _, fun L hL => ?_⟩
    refine ⟨by show 2 ≤ sizeLine; decide, fun t ht => ⟨t, _, rfl, SqT.of upd_same, rfl, _, _, rfl, _, _, rfl, rfl, ?_⟩⟩
    have hL0 : H L = none := hL
    have neL : L ≠ c.l := by
      obtain ⟨bk, e1, _⟩ := ha.hl
      exact fun z => by rw [z, e1] at hL; cases hL
    have nLt : L ≠ t := ne_of_none upd_same ht
    have f0 : Fr [c.l, L] H (upd (upd H L (.lst [])) t (.tup [vI 0, vI 0])) := (Fr.new hL).trans (Fr.new ht)
    refine ⟨InvPP K c n H a b L l o, ⟨_, 0, 0, n, [], rfl, rfl, Nat.zero_le _, Nat.zero_le _, rfl, f0, (ha.keep0 (Fr.new hL)).keep0 (Fr.new ht), by rw [upd_ne nLt, upd_same]; rfl, rfl, rfl⟩, ?_⟩
    rintro m σ H1 ⟨i, j, q1, out, rfl, rfl, h1, h2, hout, f1, ha1, hL1, g1, g2⟩
    have hA1 := f1.tup _ _ hA
    have hB1 := f1.tup _ _ hB
    refine ⟨_, rfl, _, rfl, a, _, rfl, .inr (SqT.of hA1), _, _, rfl, rfl, _, rfl, itD (fun lt1 => ?_) (fun nlt => ?_)⟩
    · rw [vL_length] at lt1
      refine ⟨_, rfl, _, rfl, b, _, rfl, .inr (SqT.of hB1), _, _, rfl, rfl, _, rfl, itD (fun lt2 => ?_) (fun nlt => ?_)⟩
      · rw [vL_length] at lt2
        have lt1 : i < l.length := by omega
        have lt2 : j < o.length := by omega
        refine ⟨fun σ' H' => ∃ m', m' < (l.length - i) + (o.length - j) ∧ InvPP K c n H a b L l o m' σ' H', fun _ _ h => h, ?_⟩
        refine ⟨_, rfl, c.p, c.dx, _, rfl, ha1.hp, rfl, _, rfl, _, rfl, b, _, _, _, rfl, rfl, SqT.of hB1, vL_at lt2, _, rfl, _, rfl, a, _, _, _, rfl, rfl, SqT.of hA1, vL_at lt1, ?_⟩
        rw [drop_head lt1, drop_head lt2] at g1 g2
        have bound : 0 < (pl c.rk (l.getD i 0 :: l.drop (i + 1)) (o.getD j 0 :: o.drop (j + 1))).2 := by
          by_cases z : c.rk (o.getD j 0) < c.rk (l.getD i 0)
          · rw [pl_yes z]; exact Nat.succ_pos _
          · rw [pl_no z]; exact Nat.succ_pos _
        refine ⟨c, q1, _, _, rfl, ha1, getD_lt ho lt2, getD_lt hl lt1, by omega, fun H2 f2 ha2 => ⟨_, rfl, itD (fun yes => ?_) (fun no => ?_)⟩⟩
        · rw [pl_yes yes, ← drop_head lt1] at g1 g2
          have hL2 := f2.keep L _ (by simpa using neL) hL1
          refine ⟨_, rfl, .inl ⟨rfl, _, SqL.of hL2⟩, _, rfl, _, rfl, b, _, _, _, rfl, rfl, SqT.of (f2.tup _ _ hB1), vL_at lt2, L, _, _, rfl, rfl, hL2, by rw [vL_length]; exact sz_lt (by omega), ?_⟩
          refine ⟨_, rfl, j, 1, rfl, rfl, ?_⟩
          refine ⟨_, by omega, i, j + 1, q1 + 1, out ++ [o.getD j 0], rfl, rfl, h1, by omega, by rw [List.length_append, hout]; rfl, (f1.trans (f2.mono (by simp))).trans (Fr.put (by simp) hL2 rfl), ha2.keep (Fr.put (xs := [L]) (by simp) hL2 rfl) ?_ ?_, ?_, ?_, by dsimp only at g2; omega⟩
          · have := ne_of ha2.hp hL2 (by intro z; cases z)
            simpa using this
          · simpa using neL.symm
          · rw [upd_same]
            have := vL_append out [o.getD j 0]
            rw [← this]; rfl
          · rw [List.append_assoc]; exact g1
        · rw [pl_no no, ← drop_head lt2] at g1 g2
          have hL2 := f2.keep L _ (by simpa using neL) hL1
          refine ⟨_, rfl, .inl ⟨rfl, _, SqL.of hL2⟩, _, rfl, _, rfl, a, _, _, _, rfl, rfl, SqT.of (f2.tup _ _ hA1), vL_at lt1, L, _, _, rfl, rfl, hL2, by rw [vL_length]; exact sz_lt (by omega), ?_⟩
          refine ⟨_, rfl, i, 1, rfl, rfl, ?_⟩
          refine ⟨_, by omega, i + 1, j, q1 + 1, out ++ [l.getD i 0], rfl, rfl, by omega, h2, by rw [List.length_append, hout]; show i + j + 1 = i + 1 + j; omega, (f1.trans (f2.mono (by simp))).trans (Fr.put (by simp) hL2 rfl), ha2.keep (Fr.put (xs := [L]) (by simp) hL2 rfl) ?_ ?_, ?_, ?_, by dsimp only at g2; omega⟩
          · have := ne_of ha2.hp hL2 (by intro z; cases z)
            simpa using this
          · simpa using neL.symm
          · rw [upd_same]
            have := vL_append out [l.getD i 0]
            rw [← this]; rfl
          · rw [List.append_assoc]; exact g1
      · rw [vL_length] at nlt
        have hx : ¬ (i < l.length ∧ j < o.length) := by omega
        refine ⟨_, rfl, L, _, rfl, .inl ⟨SqL.of hL1, fun t ht => ?_⟩⟩
        have ft : Fr [c.l, L] H1 (upd H1 t (.tup (vL out))) := Fr.new ht
        refine ⟨_, rfl, _, rfl, i, rfl, ?_⟩
        refine sl_fromN (ft.tup _ _ hA1) h1 (fun t2 H2 f2 e2 => ?_)
        refine cat_tup (f2.tup _ _ upd_same) e2 (by rw [List.length_drop]; omega) (fun t3 H3 f3 e3 => ?_)
        refine ⟨_, rfl, _, rfl, j, rfl, ?_⟩
        refine sl_fromN (f3.tup _ _ (f2.tup _ _ (ft.tup _ _ hB1))) h2 (fun t4 H4 f4 e4 => ?_)
        refine cat_tup (f4.tup _ _ e3) e4 (by rw [List.length_append, List.length_drop, List.length_drop]; omega) (fun t5 H5 f5 e5 => ?_)
        have F : Fr [c.l, L] H H5 := f1.trans (ft.trans (((f2.trans f3).trans (f4.trans f5)).mono (fun b hb => by cases hb)))
        have hend : pl c.rk (l.drop i) (o.drop j) = (l.drop i ++ o.drop j, 0) := by
          by_cases z : i < l.length
          · rw [List.drop_eq_nil_of_le (show o.length ≤ j by omega), pl_nil2, List.append_nil]
          · rw [List.drop_eq_nil_of_le (show l.length ≤ i by omega), pl_nil]; rfl
        rw [hend] at g1 g2
        refine q t5 H5 (F.drop fun b hb => ?_) ?_ ?_
        · rcases List.mem_cons.mp hb with e | e
          · exact .inl (by rw [e]; exact List.mem_cons_self)
          · exact .inr (by rw [List.mem_singleton.mp e]; exact hL0)
        · rw [← g2]
          exact ((((ha1.keep0 (Fr.new ht)).keep0 f2).keep0 f3).keep0 f4).keep0 f5
        · rw [e5, ← g1, List.append_assoc]
    · rw [vL_length] at nlt
      have hx : ¬ (i < l.length ∧ j < o.length) := by omega
      refine ⟨_, rfl, L, _, rfl, .inl ⟨SqL.of hL1, fun t ht => ?_⟩⟩
      have ft : Fr [c.l, L] H1 (upd H1 t (.tup (vL out))) := Fr.new ht
      refine ⟨_, rfl, _, rfl, i, rfl, ?_⟩
      refine sl_fromN (ft.tup _ _ hA1) h1 (fun t2 H2 f2 e2 => ?_)
      refine cat_tup (f2.tup _ _ upd_same) e2 (by rw [List.length_drop]; omega) (fun t3 H3 f3 e3 => ?_)
      refine ⟨_, rfl, _, rfl, j, rfl, ?_⟩
      refine sl_fromN (f3.tup _ _ (f2.tup _ _ (ft.tup _ _ hB1))) h2 (fun t4 H4 f4 e4 => ?_)
      refine cat_tup (f4.tup _ _ e3) e4 (by rw [List.length_append, List.length_drop, List.length_drop]; omega) (fun t5 H5 f5 e5 => ?_)
      have F : Fr [c.l, L] H H5 := f1.trans (ft.trans (((f2.trans f3).trans (f4.trans f5)).mono (fun b hb => by cases hb)))
      have hend : pl c.rk (l.drop i) (o.drop j) = (l.drop i ++ o.drop j, 0) := by
        by_cases z : i < l.length
        · rw [List.drop_eq_nil_of_le (show o.length ≤ j by omega), pl_nil2, List.append_nil]
        · rw [List.drop_eq_nil_of_le (show l.length ≤ i by omega), pl_nil]; rfl
      rw [hend] at g1 g2
      refine q t5 H5 (F.drop fun b hb => ?_) ?_ ?_
      · rcases List.mem_cons.mp hb with e | e
        · exact .inl (by rw [e]; exact List.mem_cons_self)
        · exact .inr (by rw [List.mem_singleton.mp e]; exact hL0)
      · rw [← g2]
        exact ((((ha1.keep0 (Fr.new ht)).keep0 f2).keep0 f3).keep0 f4).keep0 f5
      · rw [e5, ← g1, List.append_assoc]
end
end NR

set_option maxRecDepth 100000
set_option maxHeartbeats 4000000
/-! Two lines poured together by leaps. -/
namespace NR
open PySem PySem.Spec PyProof.Rows L2 NM
def InvLP (K : PySem.W.Frag) (c : AC) (q : Nat) (H : Hp) (l o : List Nat) (m : Nat) (σ : L2.St) (H' : Hp) : Prop :=
  ∃ (a b t : Addr) (l' o' out : List Nat) (q' : Nat) (z : Option V), m = l'.length + o'.length ∧ σ = [some (.ref c.p), some (.ref a), some (.ref b), some (.ref t), z] ∧ Fr [c.l] H H' ∧ AskAt K c q' H' ∧
    H' a = some (.tup (vL l')) ∧ H' b = some (.tup (vL o')) ∧ H' t = some (.tup (vL out)) ∧ (∀ y ∈ l', y < c.n) ∧ (∀ y ∈ o', y < c.n) ∧ out.length + l'.length + o'.length ≤ 1000 ∧
    out ++ (lp c.rk l' o').1 = (lp c.rk l o).1 ∧ q' + (lp c.rk l' o').2 = q + (lp c.rk l o).2
section
variable {P : Program} {w : World} {K : PySem.W.Frag} {mg : Str → Option Value} {base : Heap}
theorem sc_pour_by_leaps : FnScope ["asker", "one", "other", "line", "place"] ["asker", "one", "other"] (defScope s_pour_by_leaps) := ⟨rfl, rfl, rfl, by decide +kernel, rfl, by decide +kernel, by decide +kernel⟩
theorem ok_pour_by_leaps (T : Hd K mg) : DOk P w K mg base 8 "pour_by_leaps" ["asker", "one", "other"] (spPour K lp) := by
  refine mkD T 23 16 rfl rfl sc_pour_by_leaps (fun _ _ _ _ _ _ us hl => match us, hl with | [_, _, _], _ => rfl) (fun vs H Q E h => ?_) (fun cdv A outer s H vs Q E hr h => ?_)
  · obtain ⟨c, q, a, b, l, o, rfl, _⟩ := h; rfl
  · obtain ⟨c, n, a, b, l, o, rfl, ha, hA, hB, hl, ho, hlen, hn, q⟩ := h
    refine ⟨_, (pss_cons (ps_set (i := 3) sc_pour_by_leaps.nd rfl (Or.inl rfl) (pe_tup pa_nil))
      (pss_cons (ps_while PassesOwn.never (PW.pt (pw_and (pt_cmpR (op_neD hr.units) (pv 1) (pe_tup pa_nil) (nomark _)) (pw_and1 (pt_cmpR (op_neD hr.units) (pv 2) (pe_tup pa_nil) (nomark _)))))
        (pss_cons (ps_set (i := 4) sc_pour_by_leaps.nd rfl (Or.inl rfl) (pe_cd (ok_right_leap T) (hr.mono (by decide)) (pa_cons (pv 0) (pa_cons (pv 1) (pa_cons (pe_ix ix_tup (pv 2) pe_int (fun _ _ => rfl)) pa_nil)))))
        (pss_cons (ps_set (i := 3) sc_pour_by_leaps.nd rfl (Or.inl rfl) (pe_op op_catA (pe_op op_catA (pv 3) (pe_slice sl_tupA (pv 1) po_none (po_some (pv 4)))) (pe_slice sl_tupA (pv 2) po_none (po_some pe_int))))
        (pss_cons (ps_par (i := 1) (j := 2) (by rfl) sc_pour_by_leaps.nd rfl rfl (by decide) rfl rfl (pa_cons (pe_slice sl_tupA (pv 1) (po_some (pv 4)) po_none) (pa_cons (pe_slice sl_tupA (pv 2) (po_some pe_int) po_none) pa_nil)) (by rfl))
        (pss_one (ps_if (PW.pt (pw_and (pt_cmpR (op_neD hr.units) (pv 1) (pe_tup pa_nil) (nomark _)) (pw_and1 (pt_cmpR (op_neD hr.units) (pv 2) (pe_tup pa_nil) (nomark _)))))
          (pss_cons (ps_set (i := 4) sc_pour_by_leaps.nd rfl (Or.inl rfl) (pe_cd (ok_left_leap T) (hr.mono (by decide)) (pa_cons (pv 0) (pa_cons (pv 2) (pa_cons (pe_ix ix_tup (pv 1) pe_int (fun _ _ => rfl)) pa_nil)))))
          (pss_cons (ps_set (i := 3) sc_pour_by_leaps.nd rfl (Or.inl rfl) (pe_op op_catA (pe_op op_catA (pv 3) (pe_slice sl_tupA (pv 2) po_none (po_some (pv 4)))) (pe_slice sl_tupA (pv 1) po_none (po_some pe_int))))
          (pss_one (ps_par (i := 1) (j := 2) (by rfl) sc_pour_by_leaps.nd rfl rfl (by decide) rfl rfl (pa_cons (pe_slice sl_tupA (pv 1) (po_some pe_int) po_none) (pa_cons (pe_slice sl_tupA (pv 2) (po_some (pv 4)) po_none) pa_nil)) (by rfl)))))
          pss_nil))))))
      (pss_one (ps_ret (pe_op op_catA (pe_op op_catA (pv 3) (pv 1)) (pv 2)))))), ?_⟩
    refine ⟨Nat.zero_le _, fun t0 ht0 => ?_⟩
    refine ⟨InvLP K c n H l o, ⟨_, a, b, t0, l, o, [], n, none, rfl, rfl, Fr.new ht0, ha.keep0 (Fr.new ht0), (Fr.new (xs := []) ht0).tup _ _ hA, (Fr.new (xs := []) ht0).tup _ _ hB, upd_same, hl, ho, by show 0 + l.length + o.length ≤ 1000; omega, rfl, rfl⟩, ?_⟩
    rintro m σ H1 ⟨a, b, t, l1, o1, out, q1, z, rfl, rfl, f1, ha1, hA1, hB1, hT1, hl1, ho1, hlen1, g1, g2⟩
    clear hA hB hl ho ha hlen ht0
    refine ⟨_, rfl, Nat.zero_le _, fun e0 he0 => ?_⟩
    have fe : Fr [] H1 (upd H1 e0 (.tup [])) := Fr.new he0
    refine ne_tup (m := []) (fe.tup _ _ hA1) upd_same ?_
    have f1 := f1.trans (fe.mono (ys := [c.l]) (fun b hb => by cases hb))
    have ha1 := ha1.keep0 fe
    have hA1 := fe.tup _ _ hA1
    have hB1 := fe.tup _ _ hB1
    have hT1 := fe.tup _ _ hT1
    clear fe
    generalize upd H1 e0 (.tup []) = H1 at *
    refine ⟨_, rfl, itN (fun ne1 => ?_) (fun e1 => ?_)⟩
    · refine ⟨_, rfl, Nat.zero_le _, fun e0 he0 => ?_⟩
      have fe : Fr [] H1 (upd H1 e0 (.tup [])) := Fr.new he0
      refine ne_tup (m := []) (fe.tup _ _ hB1) upd_same ?_
      have f1 := f1.trans (fe.mono (ys := [c.l]) (fun b hb => by cases hb))
      have ha1 := ha1.keep0 fe
      have hA1 := fe.tup _ _ hA1
      have hB1 := fe.tup _ _ hB1
      have hT1 := fe.tup _ _ hT1
      clear fe
      generalize upd H1 e0 (.tup []) = H1 at *
      refine ⟨_, rfl, itN (fun ne2 => ?_) (fun e2 => ?_)⟩
      · refine ⟨fun σ' H' => ∃ m', m' < l1.length + o1.length ∧ InvLP K c n H l o m' σ' H', fun _ _ h => h, ?_⟩
        have ll1 : 0 < l1.length := List.length_pos_iff.mpr ne1
        have lo1 : 0 < o1.length := List.length_pos_iff.mpr ne2
        rcases ep : rl c.rk l1 (o1.getD 0 0) 0 0 with ⟨p, d⟩
        have hp0 := rl_asks0 c.rk l1 (o1.getD 0 0)
        rw [ep] at hp0
        dsimp only at hp0
        have hd : q1 + d ≤ n + (lp c.rk l o).2 := by
          rw [← g2]
          by_cases h4 : l1.drop p ≠ [] ∧ o1.drop 1 ≠ []
          · rcases eq : ll c.rk (o1.drop 1) ((l1.drop p).getD 0 0) 0 0 with ⟨k, d2⟩
            rw [lp_two ⟨ne1, ne2⟩ ep h4 eq]; dsimp only; omega
          · rw [lp_one ⟨ne1, ne2⟩ ep h4]; exact Nat.le_refl _
        refine ⟨_, rfl, _, rfl, _, rfl, b, _, _, _, rfl, rfl, SqT.of hB1, vL_at (i := 0) lo1, ?_⟩
        refine ⟨c, q1, a, l1, o1.getD 0 0, rfl, ha1, hA1, hl1, getD_lt ho1 lo1, by rw [ep]; dsimp only; omega, fun H2 f2 ha2 => ?_⟩
        rw [ep] at ha2
        rw [ep]
        have hA2 := f2.tup _ _ hA1
        have hB2 := f2.tup _ _ hB1
        have hT2 := f2.tup _ _ hT1
        -- line = line + one[:place] + other[:1]
        refine ⟨_, rfl, _, rfl, _, rfl, (p : Int), rfl, ?_⟩
        refine sl_to hA2 hp0.1 (fun t1 H3 f3 e3 => ?_)
        refine cat_tup (f3.tup _ _ hT2) e3 (by rw [List.length_take]; omega) (fun t2 H4 f4 e4 => ?_)
        refine ⟨_, rfl, 1, rfl, ?_⟩
        refine sl_to (i := 1) (f4.tup _ _ (f3.tup _ _ hB2)) lo1 (fun t3 H5 f5 e5 => ?_)
        refine cat_tup (f5.tup _ _ e4) e5 (by rw [List.length_append, List.length_take, List.length_take]; omega) (fun t4 H6 f6 e6 => ?_)
        have F : Fr [] H2 H6 := f3.trans (f4.trans (f5.trans f6))
        have hA6 := F.tup _ _ hA2
        have hB6 := F.tup _ _ hB2
        have ha6 := ha2.keep0 F
        -- one, other = one[place:], other[1:]
        refine ⟨_, rfl, _, rfl, (p : Int), rfl, ?_⟩
        refine sl_fromN hA6 hp0.1 (fun a7 H7 f7 e7 => ?_)
        refine ⟨_, rfl, 1, rfl, ?_⟩
        refine sl_fromN (i := 1) (f7.tup _ _ hB6) lo1 (fun b8 H8 f8 e8 => ?_)
        refine ⟨_, _, rfl, ?_⟩
        have F2 : Fr [] H2 H8 := F.trans (f7.trans f8)
        have hA8 := f8.tup _ _ e7
        have hT8 := f8.tup _ _ (f7.tup _ _ e6)
        have ha8 := ha2.keep0 F2
        have FF : Fr [c.l] H H8 := (f1.trans f2).trans (F2.mono (fun b hb => by cases hb))
        have hl8 : ∀ y ∈ l1.drop p, y < c.n := fun y hy => hl1 y (List.mem_of_mem_drop hy)
        have ho8 : ∀ y ∈ o1.drop 1, y < c.n := fun y hy => ho1 y (List.mem_of_mem_drop hy)
        -- if one != () and other != ()
        refine ⟨_, rfl, Nat.zero_le _, fun e0 he0 => ?_⟩
        have fe : Fr [] H8 (upd H8 e0 (.tup [])) := Fr.new he0
        refine ne_tup (m := []) (fe.tup _ _ hA8) upd_same ?_
        have FF := FF.trans (fe.mono (ys := [c.l]) (fun b hb => by cases hb))
        have ha8 := ha8.keep0 fe
        have hA8 := fe.tup _ _ hA8
        have hB8 := fe.tup _ _ e8
        have hT8 := fe.tup _ _ hT8
        clear fe F2 e8 f8
        generalize upd H8 e0 (.tup []) = H8 at *
        refine ⟨_, rfl, itN (fun ne3 => ?_) (fun e3' => ?_)⟩
        · refine ⟨_, rfl, Nat.zero_le _, fun e0 he0 => ?_⟩
          have fe : Fr [] H8 (upd H8 e0 (.tup [])) := Fr.new he0
          refine ne_tup (m := []) (fe.tup _ _ hB8) upd_same ?_
          have FF := FF.trans (fe.mono (ys := [c.l]) (fun b hb => by cases hb))
          have ha8 := ha8.keep0 fe
          have hA8 := fe.tup _ _ hA8
          have hB8 := fe.tup _ _ hB8
          have hT8 := fe.tup _ _ hT8
          clear fe
          generalize upd H8 e0 (.tup []) = H8 at *
          refine ⟨_, rfl, itN (fun ne4 => ?_) (fun e4' => ?_)⟩
          · have ll8 : 0 < (l1.drop p).length := List.length_pos_iff.mpr ne3
            rcases eq : ll c.rk (o1.drop 1) ((l1.drop p).getD 0 0) 0 0 with ⟨k, d2⟩
            have hk0 := ll_asks0 c.rk (o1.drop 1) ((l1.drop p).getD 0 0)
            rw [eq] at hk0
            dsimp only at hk0
            rw [lp_two ⟨ne1, ne2⟩ ep ⟨ne3, ne4⟩ eq] at g1 g2
            dsimp only at g1 g2
            refine ⟨_, rfl, _, rfl, _, rfl, a7, _, _, _, rfl, rfl, SqT.of hA8, vL_at (i := 0) ll8, ?_⟩
            refine ⟨c, q1 + d, b8, o1.drop 1, (l1.drop p).getD 0 0, rfl, ha8, hB8, ho8, getD_lt hl8 ll8, by rw [eq]; dsimp only; omega, fun H9 f9 ha9 => ?_⟩
            rw [eq] at ha9
            rw [eq]
            have hA9 := f9.tup _ _ hA8
            have hB9 := f9.tup _ _ hB8
            have hT9 := f9.tup _ _ hT8
            refine ⟨_, rfl, _, rfl, _, rfl, (k : Int), rfl, ?_⟩
            refine sl_to hB9 hk0.1 (fun t1 H3 f3 e3 => ?_)
            refine cat_tup (f3.tup _ _ hT9) e3 (by simp only [List.length_append, List.length_take, List.length_drop] at *; omega) (fun t2 H4 f4 e4 => ?_)
            refine ⟨_, rfl, 1, rfl, ?_⟩
            refine sl_to (i := 1) (f4.tup _ _ (f3.tup _ _ hA9)) ll8 (fun t3 H5 f5 e5 => ?_)
            refine cat_tup (f5.tup _ _ e4) e5 (by simp only [List.length_append, List.length_take, List.length_drop] at *; omega) (fun t4 H6 f6 e6 => ?_)
            have F : Fr [] H9 H6 := f3.trans (f4.trans (f5.trans f6))
            refine ⟨_, rfl, 1, rfl, ?_⟩
            refine sl_fromN (i := 1) (F.tup _ _ hA9) ll8 (fun a7 H7 f7 e7 => ?_)
            refine ⟨_, rfl, _, rfl, (k : Int), rfl, ?_⟩
            refine sl_fromN (f7.tup _ _ (F.tup _ _ hB9)) hk0.1 (fun b8 H8 f8 e8 => ?_)
            refine ⟨_, _, rfl, ?_⟩
            have F2 : Fr [] H9 H8 := F.trans (f7.trans f8)
            refine ⟨_, ?_, a7, b8, t4, (l1.drop p).drop 1, (o1.drop 1).drop k, _, q1 + d + d2, _, rfl, rfl, (FF.trans f9).trans (F2.mono (fun b hb => by cases hb)), ha9.keep0 F2, f8.tup _ _ e7, e8, f8.tup _ _ (f7.tup _ _ e6), fun y hy => hl8 y (List.mem_of_mem_drop hy), fun y hy => ho8 y (List.mem_of_mem_drop hy), ?_, ?_, by omega⟩
            · simp only [List.length_drop]; omega
            · simp only [List.length_append, List.length_take, List.length_drop] at *; omega
            · rw [← g1]
              simp only [List.append_assoc]
          · have e4' : ¬ (l1.drop p ≠ [] ∧ o1.drop 1 ≠ []) := fun h => h.2 e4'
            rw [lp_one ⟨ne1, ne2⟩ ep e4'] at g1 g2
            dsimp only at g1 g2
            refine ⟨_, ?_, a7, b8, t4, l1.drop p, o1.drop 1, _, q1 + d, _, rfl, rfl, FF, ha8, hA8, hB8, hT8, hl8, ho8, ?_, ?_, by rw [lp_end e4']; exact g2⟩
            · simp only [List.length_drop]; omega
            · simp only [List.length_append, List.length_take, List.length_drop] at *; omega
            · rw [lp_end e4', ← g1]
              simp only [List.append_assoc]
        · have e4' : ¬ (l1.drop p ≠ [] ∧ o1.drop 1 ≠ []) := fun h => h.1 e3'
          rw [lp_one ⟨ne1, ne2⟩ ep e4'] at g1 g2
          dsimp only at g1 g2
          refine ⟨_, ?_, a7, b8, t4, l1.drop p, o1.drop 1, _, q1 + d, _, rfl, rfl, FF, ha8, hA8, hB8, hT8, hl8, ho8, ?_, ?_, by rw [lp_end e4']; exact g2⟩
          · simp only [List.length_drop]; omega
          · simp only [List.length_append, List.length_take, List.length_drop] at *; omega
          · rw [lp_end e4', ← g1]
            simp only [List.append_assoc]
      · have hx : ¬ (l1 ≠ [] ∧ o1 ≠ []) := fun h => h.2 e2
        rw [lp_end hx] at g1 g2
        refine ⟨_, rfl, _, rfl, ?_⟩
        refine cat_tup hT1 hA1 (by omega) (fun t3 H3 f3 e3 => ?_)
        refine ⟨_, rfl, ?_⟩
        refine cat_tup e3 (f3.tup _ _ hB1) (by rw [List.length_append]; omega) (fun t4 H4 f4 e4 => ?_)
        refine q t4 H4 (f1.trans ((f3.trans f4).mono (fun b hb => by cases hb))) (by rw [← g2]; exact (ha1.keep0 f3).keep0 f4) ?_
        rw [e4, ← g1, List.append_assoc]
    · have hx : ¬ (l1 ≠ [] ∧ o1 ≠ []) := fun h => h.1 e1
      rw [lp_end hx] at g1 g2
      refine ⟨_, rfl, _, rfl, ?_⟩
      refine cat_tup hT1 hA1 (by omega) (fun t3 H3 f3 e3 => ?_)
      refine ⟨_, rfl, ?_⟩
      refine cat_tup e3 (f3.tup _ _ hB1) (by rw [List.length_append]; omega) (fun t4 H4 f4 e4 => ?_)
      refine q t4 H4 (f1.trans ((f3.trans f4).mono (fun b hb => by cases hb))) (by rw [← g2]; exact (ha1.keep0 f3).keep0 f4) ?_
      rw [e4, ← g1, List.append_assoc]
def pourS (b : Bool) (rk : Nat → Nat) (l o : List Nat) : List Nat × Nat := pr rk b l o
def spPour4 (K : PySem.W.Frag) : Sp := fun vs H Q E => ∃ (x y z : V) (b : Bool), vs = [x, y, z, .str (manS b)] ∧ spPour K (pourS b) [x, y, z] H Q E
theorem sc_pour : FnScope ["asker", "one", "other", "manner"] ["asker", "one", "other", "manner"] (defScope s_pour) := ⟨rfl, rfl, rfl, by decide +kernel, rfl, by decide +kernel, by decide +kernel⟩
theorem ok_pour (T : Hd K mg) : DOk P w K mg base 9 "pour" ["asker", "one", "other", "manner"] (spPour4 K) := by
  refine mkD T 24 17 rfl rfl sc_pour (fun _ _ _ _ _ _ us hl => match us, hl with | [_, _, _, _], _ => rfl) (fun vs H Q E h => ?_) (fun cdv A outer s H vs Q E hr h => ?_)
  · obtain ⟨x, y, z, b, rfl, _⟩ := h; rfl
  · obtain ⟨x, y, z, b, rfl, h⟩ := h
    refine ⟨_, (pss_cons (ps_if (pt_cmpR op_eq (pv 3) pe_str (nomark _))
        (pss_one (ps_ret (pe_cd (ok_pour_by_leaps T) (hr.mono (by decide)) (pa_cons (pv 0) (pa_cons (pv 1) (pa_cons (pv 2) pa_nil))))))
        pss_nil)
      (pss_one (ps_ret (pe_cd (ok_pour_plainly T) (hr.mono (by decide)) (pa_cons (pv 0) (pa_cons (pv 1) (pa_cons (pv 2) pa_nil))))))), ?_⟩
    refine ⟨_, rfl, rfl, b, by rw [man_eq], ?_⟩
    obtain ⟨c, q, a1, a2, l, o, e, h⟩ := h
    injection e with e1 e
    injection e with e2 e
    injection e with e3 e
    subst e1 e2 e3
    cases b with
    | true => exact ⟨_, rfl, _, rfl, _, rfl, c, q, a1, a2, l, o, rfl, h⟩
    | false => exact ⟨_, rfl, _, rfl, _, rfl, c, q, a1, a2, l, o, rfl, h⟩
end
end NR

set_option maxRecDepth 100000
set_option maxHeartbeats 4000000
/-! Two lines without a common number; numbers put in. -/
namespace NR
open PySem PySem.Spec PyProof.Rows L2 NM
theorem vL_ins (l : List Nat) (k x : Nat) : (vL l).take ((k : Int)).toNat ++ [vI x] ++ (vL l).drop ((k : Int)).toNat = vL (insAt l k x) := by
  rw [Int.toNat_natCast, vL_take, vL_drop]
  unfold insAt
  rw [show [vI x] = vL [x] from rfl, vL_append, vL_append]
def spPoured (K : PySem.W.Frag) : Sp := fun vs H Q _ => ∃ (c : AC) (q : Nat) (a b : Addr) (l o : List Nat) (m : Bool), vs = [.ref c.p, .ref a, .ref b, .str (manS m)] ∧ AskAt K c q H ∧ H a = some (.tup (vL l)) ∧ H b = some (.tup (vL o)) ∧
  (∀ y ∈ l, y < c.n) ∧ (∀ y ∈ o, y < c.n) ∧ l.Nodup ∧ o.Nodup ∧ (∀ y ∈ o, y ∉ l) ∧ l.length + o.length ≤ 1000 ∧ q + (pr c.rk m l o).2 < 90000 ∧
  ∀ t H', Fr [c.l] H H' → AskAt K c (q + (pr c.rk m l o).2) H' → H' t = some (.tup (vL (pr c.rk m l o).1)) → Q (.ref t) H'
def spPut (K : PySem.W.Frag) (g : (Nat → Nat) → List Nat → Nat → List Nat × Nat) : Sp := fun vs H Q _ => ∃ (c : AC) (q : Nat) (L : Addr) (l : List Nat) (x : Nat), vs = [.ref c.p, .ref L, vI x] ∧ AskAt K c q H ∧ H L = some (.lst (vL l)) ∧ L ≠ c.l ∧ (∀ y ∈ l, y < c.n) ∧ x < c.n ∧ l.length ≤ 1000 ∧
  q + (g c.rk l x).2 < 90000 ∧ ∀ H', Fr [c.l, L] H H' → AskAt K c (q + (g c.rk l x).2) H' → H' L = some (.lst (vL (g c.rk l x).1)) → Q .non H'
theorem AskAt.neL {K : PySem.W.Frag} {c : AC} {q : Nat} {H : Hp} (h : AskAt K c q H) {L : Addr} {xs : List V} (hL : H L = some (.lst xs)) : c.p ≠ L := ne_of h.hp hL (by intro z; cases z)
theorem AskAt.newL {K : PySem.W.Frag} {c : AC} {q : Nat} {H : Hp} (h : AskAt K c q H) {L : Addr} (hL : H L = none) : L ≠ c.l := by
  obtain ⟨bk, e1, _⟩ := h.hl
  exact fun z => by rw [z, e1] at hL; cases hL
/-- a list beside the book changed -/
theorem AskAt.putL {K : PySem.W.Frag} {c : AC} {q : Nat} {H : Hp} (h : AskAt K c q H) {L : Addr} {xs ys : List V} (hL : H L = some (.lst xs)) (n : L ≠ c.l) : AskAt K c q (upd H L (.lst ys)) :=
  h.keep (Fr.put1 hL rfl) (by simpa using h.neL hL) (by simpa using n.symm)
section
variable {P : Program} {w : World} {K : PySem.W.Frag} {mg : Str → Option Value} {base : Heap}
theorem sc_poured : FnScope ["asker", "one", "other", "manner", "number"] ["asker", "one", "other", "manner"] (defScope s_poured) := ⟨rfl, rfl, rfl, by decide +kernel, rfl, by decide +kernel, by decide +kernel⟩
theorem ok_poured (T : Hd K mg) : DOk P w K mg base 10 "poured" ["asker", "one", "other", "manner"] (spPoured K) := by
  refine mkD T 25 18 rfl rfl sc_poured (fun _ _ _ _ _ _ us hl => match us, hl with | [_, _, _, _], _ => rfl) (fun vs H Q E h => ?_) (fun cdv A outer s H vs Q E hr h => ?_)
  · obtain ⟨c, q, a, b, l, o, m, rfl, _⟩ := h; rfl
  · obtain ⟨c, n, a, b, l, o, m, rfl, ha, hA, hB, hl, ho, ndl, ndo, dis, hlen, hn, q⟩ := h
    refine ⟨_, (pss_cons (ps_expr (pe_cd (ok_check_line T) (hr.mono (by decide)) (pa_cons (pe_md0 (ok_Noted_many T) (hr.mono (by decide)) (pv 0)) (pa_cons (pv 1) pa_nil))))
      (pss_cons (ps_expr (pe_cd (ok_check_line T) (hr.mono (by decide)) (pa_cons (pe_md0 (ok_Noted_many T) (hr.mono (by decide)) (pv 0)) (pa_cons (pv 2) pa_nil))))
      (pss_cons (ps_if (pt_val (pe_callB (cr_any rfl) (by rfl) T.f_any (by decide +kernel) (pa_cons (pe_lc (own := [("number", 4)]) (g := gName 4) (tt := tYes) rfl sc_poured.nd (pi_tup (pv 2)) (blkOk_by (own := [("number", 4)]) (N := ["asker", "one", "other", "manner", "number"]) (sc := defScope s_poured) (by decide +kernel)) (fun _ _ _ _ _ => (pg_name (i := 4) sc_poured.nd rfl (Or.inl rfl))) (fun _ _ _ _ _ => pts_nil) (fun _ _ _ _ _ => (pe_cmpR (op_in_seqK (K := K)) (pv 4) (pv 1) rfl))) pa_nil)))
        (pss_one ps_never)
        pss_nil)
      (pss_cons (ps_expr (pe_cd (ok_check_manner T) (hr.mono (by decide)) (pa_cons (pv 3) pa_nil)))
      (pss_one (ps_ret (pe_cd (ok_pour T) (hr.mono (by decide)) (pa_cons (pv 0) (pa_cons (pv 1) (pa_cons (pv 2) (pa_cons (pv 3) pa_nil))))))))))), ?_⟩
    refine ⟨_, rfl, _, _, _, rfl, ha.hp, rfl, c, n, rfl, ha, _, rfl, c.n, a, l, rfl, hA, ndl, hl, by omega, fun H1 f1 => ?_⟩
    have ha1 := ha.keep0 f1
    refine ⟨_, rfl, _, _, _, rfl, ha1.hp, rfl, c, n, rfl, ha1, _, rfl, c.n, b, o, rfl, f1.tup _ _ hB, ndo, ho, by omega, fun H2 f2 => ?_⟩
    have f12 := f1.trans f2
    refine ⟨_, rfl, b, rfl, ⟨_, SqT.of (f12.tup _ _ hB)⟩, fun D hD => lc_it (walk_tup (xs := vL o)) (fun i H' => Fr [] H2 H' ∧ H' D = some (.lst ((List.replicate i false).map V.bl))) ⟨(Fr.refl _ _).fresh hD, upd_same⟩ (fun _ _ _ p => SqT.of (p.1.tup b _ (f12.tup _ _ hB))) ?_ ?_⟩
    · rintro i x H3 H4 hi ⟨f, hl3⟩ ⟨rfl, hx⟩
      obtain ⟨y, hy, rfl⟩ := map_get hx
      refine ⟨rfl, ?_⟩
      refine ⟨_, rfl, _, rfl, a, _, rfl, .inr (SqT.of (f.tup _ _ (f12.tup _ _ hA))), rfl, vL_flat _, ?_⟩
      refine ⟨_, hl3, by rw [List.length_map, List.length_replicate]; rw [vL_length] at hi; exact sz_lt (by omega), f.fresh hD, ?_⟩
      rw [upd_same, if_neg (by decide), inV_int (dis y (List.mem_of_getElem? hy)), List.replicate_succ', List.map_append]
      rfl
    · rintro H3 ⟨f, hl3⟩
      refine ⟨D, List.replicate (vL o).length false, rfl, SqL.of hl3, false, by simp, ?_⟩
      have F := f12.trans f
      refine ⟨_, rfl, m, rfl, fun H4 f4 => ?_⟩
      have F := F.trans f4
      have F' := F.mono (ys := [c.l]) (fun b hb => by cases hb)
      refine ⟨_, rfl, _, rfl, _, rfl, _, rfl, _, _, _, m, rfl, c, n, a, b, l, o, rfl, ha.keep0 F, F.tup _ _ hA, F.tup _ _ hB, hl, ho, hlen, hn, fun t H5 f5 ha5 e5 => ?_⟩
      exact q t H5 (F'.trans f5) ha5 e5
theorem sc_put_plainly : FnScope ["asker", "line", "x", "place"] ["asker", "line", "x"] (defScope s_put_plainly) := ⟨rfl, rfl, rfl, by decide +kernel, rfl, by decide +kernel, by decide +kernel⟩
theorem ok_put_plainly (T : Hd K mg) : DOk P w K mg base 6 "put_plainly" ["asker", "line", "x"] (spPut K pb) := by
  refine mkD T 27 20 rfl rfl sc_put_plainly (fun _ _ _ _ _ _ us hl => match us, hl with | [_, _, _], _ => rfl) (fun vs H Q E h => ?_) (fun cdv A outer s H vs Q E hr h => ?_)
  · obtain ⟨c, q, L, l, x, rfl, _⟩ := h; rfl
  · obtain ⟨c, n, L, l, x, rfl, ha, hL, nL, hl, hx, hlen, hn, q⟩ := h
    refine ⟨_, (pss_cons (ps_set (i := 3) sc_put_plainly.nd rfl (Or.inl rfl) (pe_callB call_len_seq (by rfl) T.f_len (by decide +kernel) (pa_cons (pv 1) pa_nil)))
      (pss_cons (ps_while PassesOwn.never (PW.pt (pw_and (pt_cmpR op_gt (pv 3) pe_int (nomark _)) (pw_and1 (pt_val (pe_md (ok_Asker_less T) (hr.mono (by decide)) (pv 0) (pa_cons (pv 2) (pa_cons (pe_ix ix_list (pv 1) (pe_op op_subN (pv 3) pe_int) (fun _ _ => rfl)) pa_nil)))))))
        (pss_one (ps_set (i := 3) sc_put_plainly.nd rfl (Or.inl rfl) (pe_op op_subN (pv 3) pe_int))))
      (pss_one (ps_expr (pe_bm PySem.F.plainAttrs_list PySem.F.slot_list_insert PySem.F.type_list_insert mt_insert (pv 1) (pa_cons (pv 3) (pa_cons (pv 2) pa_nil))))))), ?_⟩
    refine ⟨_, rfl, L, _, rfl, .inl (SqL.of hL), ?_⟩
    rw [vL_length]
    refine ⟨fun m σ H' => ∃ (k q' : Nat), m = k ∧ σ = [some (.ref c.p), some (.ref L), some (vI x), some (vI k)] ∧ k ≤ l.length ∧ Fr [c.l] H H' ∧ AskAt K c q' H' ∧ (pp c.rk l x k).1 = (pp c.rk l x l.length).1 ∧ q' + (pp c.rk l x k).2 = n + (pp c.rk l x l.length).2, ⟨_, l.length, n, rfl, rfl, Nat.le_refl _, Fr.refl _ _, ha, rfl, rfl⟩, ?_⟩
    rintro m σ H1 ⟨k, q1, rfl, rfl, hk, f1, ha1, g1, g2⟩
    have hL1 := f1.keep L _ (by simpa using nL) hL
    unfold pb at hn q
    dsimp only at hn q
    refine ⟨_, rfl, _, _, rfl, rfl, _, rfl, itD (fun gt => ?_) (fun ngt => ?_)⟩
    · obtain ⟨j, rfl⟩ : ∃ j, m = j + 1 := ⟨m - 1, by omega⟩
      have hj : j < l.length := by omega
      refine ⟨_, rfl, c.p, c.dx, _, rfl, ha1.hp, rfl, _, rfl, _, rfl, _, rfl, j + 1, 1, rfl, rfl, by omega, L, _, _, _, rfl, rfl, SqL.of hL1, vL_at hj, ?_⟩
      have bound : 0 < (pp c.rk l x (j + 1)).2 := by unfold pp; split <;> exact Nat.succ_pos _
      refine ⟨c, q1, x, _, rfl, ha1, hx, getD_lt hl hj, by omega, fun H2 f2 ha2 => ⟨_, rfl, itD (fun yes => ?_) (fun no => ?_)⟩⟩
      · have yes : c.rk x < c.rk (l.getD j 0) := yes
        have e : pp c.rk l x (j + 1) = ((pp c.rk l x j).1, (pp c.rk l x j).2 + 1) := by
          conv => lhs; unfold pp
          rw [if_pos yes]
        rw [e] at g1 g2
        refine ⟨_, fun _ _ h => h, _, rfl, j + 1, 1, rfl, rfl, by omega, ?_⟩
        exact ⟨j, by omega, j, q1 + 1, rfl, rfl, by omega, f1.trans f2, ha2, g1, by dsimp only at g2; omega⟩
      · have no : ¬ c.rk x < c.rk (l.getD j 0) := no
        have e : pp c.rk l x (j + 1) = (j + 1, 1) := by
          conv => lhs; unfold pp
          rw [if_neg no]
        rw [e] at g1 g2
        dsimp only at g1 g2
        have hL1 := f2.keep L _ (by simpa using nL) hL1
        refine ⟨_, rfl, .inl ⟨rfl, _, SqL.of hL1⟩, _, rfl, _, rfl, L, _, _, _, rfl, rfl, hL1, by rw [vL_length]; exact sz_lt (by omega), by omega, by omega, ?_⟩
        rw [vL_ins]
        refine q _ (((f1.trans f2).mono (by simp)).trans (Fr.put (by simp) hL1 rfl)) ?_ ?_
        · rw [← g2]; exact ha2.putL hL1 nL
        · rw [upd_same, g1]
    · have : m = 0 := by omega
      subst this
      have e : pp c.rk l x 0 = (0, 0) := rfl
      rw [e] at g1 g2
      dsimp only at g1 g2
      refine ⟨_, rfl, .inl ⟨rfl, _, SqL.of hL1⟩, _, rfl, _, rfl, L, _, _, _, rfl, rfl, hL1, by rw [vL_length]; exact sz_lt (by omega), by omega, by omega, ?_⟩
      rw [vL_ins]
      refine q _ ((f1.mono (by simp)).trans (Fr.put (by simp) hL1 rfl)) ?_ ?_
      · rw [← g2]; exact ha1.putL hL1 nL
      · rw [upd_same, g1]
theorem sc_put_by_halves : FnScope ["asker", "line", "x"] ["asker", "line", "x"] (defScope s_put_by_halves) := ⟨rfl, rfl, rfl, by decide +kernel, rfl, by decide +kernel, by decide +kernel⟩
theorem ok_put_by_halves (T : Hd K mg) : DOk P w K mg base 7 "put_by_halves" ["asker", "line", "x"] (spPut K ph) := by
  refine mkD T 28 21 rfl rfl sc_put_by_halves (fun _ _ _ _ _ _ us hl => match us, hl with | [_, _, _], _ => rfl) (fun vs H Q E h => ?_) (fun cdv A outer s H vs Q E hr h => ?_)
  · obtain ⟨c, q, L, l, x, rfl, _⟩ := h; rfl
  · obtain ⟨c, n, L, l, x, rfl, ha, hL, nL, hl, hx, hlen, hn, q⟩ := h
    refine ⟨_, (pss_one (ps_expr (pe_bm PySem.F.plainAttrs_list PySem.F.slot_list_insert PySem.F.type_list_insert mt_insert (pv 1) (pa_cons (pe_cd (ok_right_between T) (hr.mono (by decide)) (pa_cons (pv 0) (pa_cons (pv 1) (pa_cons (pv 2) (pa_cons pe_int (pa_cons (pe_callB call_len_seq (by rfl) T.f_len (by decide +kernel) (pa_cons (pv 1) pa_nil)) pa_nil)))))) (pa_cons (pv 2) pa_nil))))), ?_⟩
    unfold ph at hn q
    dsimp only at hn q
    refine ⟨_, rfl, .inl ⟨rfl, _, SqL.of hL⟩, _, rfl, _, rfl, _, rfl, _, rfl, L, _, rfl, .inl (SqL.of hL), ?_⟩
    rw [vL_length]
    refine ⟨c, n, L, l, x, 0, l.length, rfl, ha, .inr ⟨hL, nL⟩, hl, hx, Nat.zero_le _, Nat.le_refl _, hn, fun H1 f1 ha1 => ?_⟩
    have hL1 := f1.keep L _ (by simpa using nL) hL
    have hb := rb_asks c.rk l x l.length 0 l.length rfl (Nat.zero_le _)
    refine ⟨_, rfl, L, _, _, _, rfl, rfl, hL1, by rw [vL_length]; exact sz_lt (by omega), by omega, by omega, ?_⟩
    rw [vL_ins]
    refine q _ ((f1.mono (by simp)).trans (Fr.put (by simp) hL1 rfl)) (ha1.putL hL1 nL) ?_
    rw [upd_same]
end
end NR

set_option maxRecDepth 100000
set_option maxHeartbeats 4000000
/-! All numbers put in; runs. -/
namespace NR
open PySem PySem.Spec PyProof.Rows L2 NM
/-- true: by halves -/
def putS (b : Bool) : Str := if b = true then "halves" else "plain"
theorem put_in2 : inV (.str "halves") [.str "plain", .str "halves"] = true ∧ inV (.str "plain") [.str "plain", .str "halves"] = true := by decide +kernel
theorem put_inV (b : Bool) : inV (.str (putS b)) [.str "plain", .str "halves"] = true := by
  cases b
  · exact put_in2.2
  · exact put_in2.1
theorem put_eq (b : Bool) : decide (V.str (putS b) = V.str "plain") = !b := by
  cases b
  · show decide (V.str "plain" = V.str "plain") = true
    decide +kernel
  · show decide (V.str "halves" = V.str "plain") = false
    decide +kernel
def putM (b : Bool) (rk : Nat → Nat) (n : Nat) : List Nat × Nat := if b = true then putH rk n else putP rk n
def put1 (b : Bool) (rk : Nat → Nat) (l : List Nat) (x : Nat) : List Nat × Nat := if b = true then ph rk l x else pb rk l x
theorem putM_succ (b : Bool) (rk : Nat → Nat) (n : Nat) : putM b rk (n + 1) = ((put1 b rk (putM b rk n).1 n).1, (putM b rk n).2 + (put1 b rk (putM b rk n).1 n).2) := by cases b <;> rfl
theorem putM_arr (b : Bool) (rk : Nat → Nat) (n : Nat) : (putM b rk n).1 = arr rk n := by
  cases b
  · exact (putP_arr rk n).1
  · exact (putH_arr rk n).1
theorem putM_mono (b : Bool) (rk : Nat → Nat) {i n : Nat} (h : i ≤ n) : (putM b rk i).2 ≤ (putM b rk n).2 := by
  induction n with
  | zero => rw [show i = 0 by omega]; exact Nat.le_refl _
  | succ n ih =>
    by_cases e : i = n + 1
    · subst e; exact Nat.le_refl _
    · rw [putM_succ]
      have := ih (by omega)
      dsimp only
      omega
def spPutIn (K : PySem.W.Frag) : Sp := fun vs H Q _ => ∃ (c : AC) (q : Nat) (b : Bool), vs = [.ref c.p, .str (putS b)] ∧ AskAt K c q H ∧ q + (putM b c.rk c.n).2 < 90000 ∧
  ∀ t H', Fr [c.l] H H' → AskAt K c (q + (putM b c.rk c.n).2) H' → H' t = some (.tup (vL (arr c.rk c.n))) → Q (.ref t) H'
def dirS (b : Bool) : Str := if b = true then "down" else "up"
theorem dir_eq (b : Bool) : decide (V.str (dirS b) = V.str "down") = b := by
  cases b
  · show decide (V.str "up" = V.str "down") = false
    decide +kernel
  · show decide (V.str "down" = V.str "down") = true
    decide +kernel
def spRunAt (K : PySem.W.Frag) : Sp := fun vs H Q _ => ∃ (c : AC) (q s : Nat), vs = [.ref c.p, vI s] ∧ AskAt K c q H ∧ s < c.n ∧ q + (NM.run c.rk c.n s).2.2 < 90000 ∧
  ∀ t H', Fr [c.l] H H' → AskAt K c (q + (NM.run c.rk c.n s).2.2) H' → H' t = some (.tup [vI (NM.run c.rk c.n s).1, .str (dirS (NM.run c.rk c.n s).2.1)]) → Q (.ref t) H'
def spCheckFill : Sp := fun vs H Q _ => ∃ f : Nat, vs = [vI f] ∧ 1 ≤ f ∧ f ≤ 64 ∧ Q .non H
def spFilledAt (K : PySem.W.Frag) : Sp := fun vs H Q _ => ∃ (c : AC) (q s f : Nat), vs = [.ref c.p, vI s, vI f] ∧ AskAt K c q H ∧ s < c.n ∧ q + (filledAt c.rk c.n f s).2 < 90000 ∧
  ∀ t H', Fr [c.l] H H' → AskAt K c (q + (filledAt c.rk c.n f s).2) H' → H' t = some (.tup (vL (filledAt c.rk c.n f s).1)) → Q (.ref t) H'
theorem rg_vL (s n : Nat) : rgV (s : Int) ((s : Int) + (n : Int)) = vL (List.range' s n) := by
  unfold rgV vL
  rw [show ((s : Int) + (n : Int) - (s : Int)).toNat = n by omega, List.range'_eq_map_range, List.map_map]
  rfl
theorem walk_range0 {n : Nat} : Walk (Itr 0 n) n (fun _ => True) (YFn vI) := walk_range.mono (fun _ _ => trivial) (fun i H x H' _ _ y => ⟨y.1, y.2.trans (by show V.int (0 + (i : Int)) = V.int (i : Int); rw [Int.zero_add])⟩)
theorem walk_rangeN {lo n : Nat} : Walk (Itr (lo : Int) n) n (fun _ => True) (YFn fun i => vI (lo + i)) := walk_range.mono (fun _ _ => trivial) (fun i H x H' _ _ y => ⟨y.1, y.2⟩)
section
variable {P : Program} {w : World} {K : PySem.W.Frag} {mg : Str → Option Value} {base : Heap}
theorem sc_put_in : FnScope ["asker", "manner", "line", "x"] ["asker", "manner"] (defScope s_put_in) := ⟨rfl, rfl, rfl, by decide +kernel, rfl, by decide +kernel, by decide +kernel⟩
theorem ok_put_in (T : Hd K mg) : DOk P w K mg base 8 "put_in" ["asker", "manner"] (spPutIn K) := by
  refine mkD T 29 22 rfl rfl sc_put_in (fun _ _ _ _ _ _ us hl => match us, hl with | [_, _], _ => rfl) (fun vs H Q E h => ?_) (fun cdv A outer s H vs Q E hr h => ?_)
  · obtain ⟨c, q, b, rfl, _⟩ := h; rfl
  · obtain ⟨c, n, b, rfl, ha, hn, q⟩ := h
    refine ⟨_, (pss_cons (ps_if (PW.pt (pw_or (pt_not (pt_val (pe_callB call_isi (by rfl) T.f_isinstance (by decide +kernel) (pa_cons (pv 1) (pa_cons (pe_bltn (v := .ty "str") rfl T.f_str (by decide +kernel) rfl) pa_nil))))) (pw_or1 (pt_cmpR op_notIn_seq (pv 1) (pe_tup (pa_cons pe_str (pa_cons pe_str pa_nil))) rfl))))
        (pss_one ps_never)
        pss_nil)
      (pss_cons (ps_set (i := 2) sc_put_in.nd rfl (Or.inl rfl) (pe_lst pa_nil))
      (pss_cons (ps_for PassesOwn.never rfl (pi_range1 (by rfl) T.f_range (pa_cons (pe_md0 (ok_Noted_many T) (hr.mono (by decide)) (pv 0)) pa_nil)) (pg_name (i := 3) sc_put_in.nd rfl (Or.inl rfl))
        (pss_one (ps_if (pt_cmpR op_eq (pv 1) pe_str (nomark _))
          (pss_one (ps_expr (pe_cd (ok_put_plainly T) (hr.mono (by decide)) (pa_cons (pv 0) (pa_cons (pv 2) (pa_cons (pv 3) pa_nil))))))
          (pss_one (ps_expr (pe_cd (ok_put_by_halves T) (hr.mono (by decide)) (pa_cons (pv 0) (pa_cons (pv 2) (pa_cons (pv 3) pa_nil)))))))))
      (pss_one (ps_ret (pe_callTy call_tuple_of (by rfl) T.f_tuple (by decide +kernel) (pa_cons (pv 2) pa_nil))))))), ?_⟩
    have h60 := ha.ok.n60
    refine ⟨_, rfl, _, _, _, _, true, rfl, .ty "str", .base (.str _), kb_ss, true, rfl, ?_⟩
    refine ⟨_, rfl, by show 2 ≤ sizeLine; decide, fun t ht => ⟨t, _, rfl, .inr (SqT.of upd_same), rfl, rfl, false, ?_, ?_⟩⟩
    · show V.bl (if true = true then !inV (.str (putS b)) [.str "plain", .str "halves"] else _) = _
      rw [put_inV]; rfl
    have ft : Fr [] H (upd H t (.tup [.str "plain", .str "halves"])) := Fr.new ht
    refine ⟨Nat.zero_le _, fun L hL => ?_⟩
    have fL : Fr [] H (upd (upd H t (.tup [.str "plain", .str "halves"])) L (.lst [])) := ft.trans (Fr.new hL)
    have hL0 := ft.none (by simp) hL
    have nL := ha.newL hL0
    have haL := ha.keep0 fL
    refine ⟨_, rfl, _, _, _, rfl, haL.hp, rfl, c, n, rfl, haL, (c.n : Int), rfl, by omega, by omega, ?_⟩
    refine for_it (walk_range0 (n := ((c.n : Int)).toNat)) (fun i σ H' => Fr [c.l, L] H H' ∧ AskAt K c (n + (putM b c.rk i).2) H' ∧ H' L = some (.lst (vL (putM b c.rk i).1)) ∧ ∃ z, σ = [some (.ref c.p), some (.str (putS b)), some (.ref L), z]) ⟨fL.mono (fun b hb => by cases hb), ?_, ?_, _, rfl⟩ (fun _ _ _ _ _ => trivial) ?_ ?_
    · have : putM b c.rk 0 = ([], 0) := by cases b <;> rfl
      rw [this]; exact haL
    · have : putM b c.rk 0 = ([], 0) := by cases b <;> rfl
      rw [this, upd_same]; rfl
    · rintro i x σ H1 H2 hi ⟨f1, ha1, hL1, z, rfl⟩ ⟨rfl, rfl⟩
      have hi : i < c.n := by omega
      have hm := putM_mono b c.rk (show i + 1 ≤ c.n by omega)
      rw [putM_succ] at hm
      dsimp only at hm
      have hlt : ∀ y ∈ (putM b c.rk i).1, y < c.n := fun y hy => by rw [putM_arr] at hy; have := arr_mem.mp hy; omega
      have hle : (putM b c.rk i).1.length ≤ 1000 := by rw [putM_arr, arr_length]; omega
      rw [putM_succ]
      refine ⟨_, rfl, rfl, !b, by rw [put_eq], ?_⟩
      cases b with
      | true => exact ⟨_, rfl, _, rfl, _, rfl, c, _, L, _, i, rfl, ha1, hL1, nL, hlt, hi, hle, Nat.lt_of_le_of_lt (by show n + (putM true c.rk i).2 + (put1 true c.rk (putM true c.rk i).1 i).2 ≤ n + (putM true c.rk c.n).2; omega) hn, fun H3 f3 ha3 e3 => ⟨f1.trans f3, by rw [← Nat.add_assoc]; exact ha3, e3, _, rfl⟩⟩
      | false => exact ⟨_, rfl, _, rfl, _, rfl, c, _, L, _, i, rfl, ha1, hL1, nL, hlt, hi, hle, Nat.lt_of_le_of_lt (by show n + (putM false c.rk i).2 + (put1 false c.rk (putM false c.rk i).1 i).2 ≤ n + (putM false c.rk c.n).2; omega) hn, fun H3 f3 ha3 e3 => ⟨f1.trans f3, by rw [← Nat.add_assoc]; exact ha3, e3, _, rfl⟩⟩
    · rintro σ H1 ⟨f1, ha1, hL1, z, rfl⟩
      rw [Int.toNat_natCast] at ha1 hL1
      refine ⟨_, rfl, L, _, rfl, .inl ⟨SqL.of hL1, fun t2 ht2 => ?_⟩⟩
      have f2 : Fr [c.l, L] H (upd H1 t2 (.tup (vL (putM b c.rk c.n).1))) := f1.trans (Fr.new ht2)
      refine q t2 _ (f2.drop fun x hx => ?_) (ha1.keep0 (Fr.new ht2)) (by rw [upd_same, putM_arr])
      rcases List.mem_cons.mp hx with e | e
      · exact .inl (by rw [e]; exact List.mem_cons_self)
      · exact .inr (by rw [List.mem_singleton.mp e]; exact hL0)
theorem sc_check_fill : FnScope ["fill"] ["fill"] (defScope s_check_fill) := ⟨rfl, rfl, rfl, by decide +kernel, rfl, by decide +kernel, by decide +kernel⟩
theorem ok_check_fill (T : Hd K mg) : DOk P w K mg base 2 "check_fill" ["fill"] spCheckFill := by
  refine mkD T 31 24 rfl rfl sc_check_fill (fun _ _ _ _ _ _ us hl => match us, hl with | [_], _ => rfl) (fun vs H Q E h => ?_) (fun cdv A outer s H vs Q E hr h => ?_)
  · obtain ⟨f, rfl, _⟩ := h; rfl
  · obtain ⟨f, rfl, h1, h64, q⟩ := h
    refine ⟨_, (pss_one (ps_if (PW.pt (pw_or (pt_not (pt_val (pe_cd (ok_is_whole T) (hr.mono (by decide)) (pa_cons (pv 0) pa_nil)))) (pw_or1 (pt_not (pt_chain op_le op_le pe_int (pv 0) pe_int)))))
        (pss_one ps_never)
        pss_nil)), ?_⟩
    refine ⟨_, rfl, _, rfl, .inl ⟨⟨_, rfl⟩, true, rfl, ?_⟩⟩
    refine ⟨_, rfl, _, _, rfl, rfl, _, rfl, ?_⟩
    refine itD (fun _ => ?_) (fun n => absurd (by omega) n)
    refine ⟨_, _, rfl, rfl, _, rfl, ?_⟩
    rw [decide_eq_true (show (f : Int) ≤ 64 by omega)]
    exact q
theorem sc_run_at : FnScope ["asker", "start", "many", "falls", "end"] ["asker", "start"] (defScope s_run_at) := ⟨rfl, rfl, rfl, by decide +kernel, rfl, by decide +kernel, by decide +kernel⟩
theorem ok_run_at (T : Hd K mg) : DOk P w K mg base 6 "run_at" ["asker", "start"] (spRunAt K) := by
  refine mkD T 30 23 rfl rfl sc_run_at (fun _ _ _ _ _ _ us hl => match us, hl with | [_, _], _ => rfl) (fun vs H Q E h => ?_) (fun cdv A outer s H vs Q E hr h => ?_)
  · obtain ⟨c, q, s, rfl, _⟩ := h; rfl
  · obtain ⟨c, n, s, rfl, ha, hs, hn, q⟩ := h
    refine ⟨_, (pss_cons (ps_set (i := 2) sc_run_at.nd rfl (Or.inl rfl) (pe_md0 (ok_Noted_many T) (hr.mono (by decide)) (pv 0)))
      (pss_cons (ps_if (pt_cmpR op_eq (pe_op op_addN (pv 1) pe_int) (pv 2) (nomark _))
        (pss_one (ps_ret (pe_tup (pa_cons pe_int (pa_cons pe_str pa_nil)))))
        pss_nil)
      (pss_cons (ps_set (i := 3) sc_run_at.nd rfl (Or.inl rfl) (pe_md (ok_Asker_less T) (hr.mono (by decide)) (pv 0) (pa_cons (pe_op op_addN (pv 1) pe_int) (pa_cons (pv 1) pa_nil))))
      (pss_cons (ps_set (i := 4) sc_run_at.nd rfl (Or.inl rfl) (pe_op op_addN (pv 1) pe_int))
      (pss_cons (ps_while PassesOwn.never (PW.pt (pw_and (pt_cmpR op_lt (pv 4) (pv 2) (nomark _)) (pw_and1 (pt_cmpR op_eq (pe_md (ok_Asker_less T) (hr.mono (by decide)) (pv 0) (pa_cons (pv 4) (pa_cons (pe_op op_subN (pv 4) pe_int) pa_nil))) (pv 3) (nomark _)))))
        (pss_one (ps_set (i := 4) sc_run_at.nd rfl (Or.inl rfl) (pe_op op_addN (pv 4) pe_int))))
      (pss_cons (ps_if (pt_val (pv 3))
        (pss_one (ps_ret (pe_tup (pa_cons (pe_op op_subN (pv 4) (pv 1)) (pa_cons pe_str pa_nil)))))
        pss_nil)
      (pss_one (ps_ret (pe_tup (pa_cons (pe_op op_subN (pv 4) (pv 1)) (pa_cons pe_str pa_nil))))))))))), ?_⟩
    refine ⟨_, rfl, _, _, _, rfl, ha.hp, rfl, c, n, rfl, ha, ?_⟩
    refine ⟨_, rfl, s, 1, rfl, rfl, _, rfl, rfl, _, rfl, itD (fun e => ?_) (fun ne => ?_)⟩
    · have e : s + 1 = c.n := by
        have := V.int.inj e
        omega
      have hr2 : NM.run c.rk c.n s = (1, false, 0) := by unfold NM.run; rw [if_pos e]
      rw [hr2] at q
      exact ⟨by show 2 ≤ sizeLine; decide, fun t ht => q t _ (Fr.new ht) (ha.keep0 (Fr.new ht)) upd_same⟩
    · have ne : s + 1 ≠ c.n := fun z => ne (by rw [z])
      have hr2 : NM.run c.rk c.n s = ((re c.rk c.n (decide (c.rk (s + 1) < c.rk s)) (s + 2)).1 - s, decide (c.rk (s + 1) < c.rk s), (re c.rk c.n (decide (c.rk (s + 1) < c.rk s)) (s + 2)).2 + 1) := by unfold NM.run; rw [if_neg ne]
      have hnr : n + (re c.rk c.n (decide (c.rk (s + 1) < c.rk s)) (s + 2)).2 + 1 < 90000 := by rw [hr2] at hn; exact hn
      refine ⟨_, rfl, _, _, _, rfl, ha.hp, rfl, _, rfl, s, 1, rfl, rfl, _, rfl, c, n, s + 1, s, rfl, ha, by omega, hs, by omega, fun H1 f1 ha1 => ?_⟩
      refine ⟨_, rfl, s, 2, rfl, rfl, ?_⟩
      refine ⟨fun m σ H' => ∃ (e q' : Nat), m = c.n - e ∧ σ = [some (.ref c.p), some (vI s), some (vI c.n), some (.bl (decide (c.rk (s + 1) < c.rk s))), some (vI e)] ∧ s + 2 ≤ e ∧ e ≤ c.n ∧ Fr [c.l] H H' ∧ AskAt K c q' H' ∧
        (re c.rk c.n (decide (c.rk (s + 1) < c.rk s)) e).1 = (re c.rk c.n (decide (c.rk (s + 1) < c.rk s)) (s + 2)).1 ∧ q' + (re c.rk c.n (decide (c.rk (s + 1) < c.rk s)) e).2 = n + 1 + (re c.rk c.n (decide (c.rk (s + 1) < c.rk s)) (s + 2)).2, ⟨_, s + 2, n + 1, rfl, rfl, Nat.le_refl _, by omega, f1, ha1, rfl, rfl⟩, ?_⟩
      rintro m σ H2 ⟨e, q1, rfl, rfl, he, hen, f2, ha2, g1, g2⟩
      refine ⟨_, rfl, _, rfl, _, _, rfl, rfl, _, rfl, itD (fun lt => ?_) (fun nlt => ?_)⟩
      · have lt : e < c.n := by omega
        have bound : 0 < (re c.rk c.n (decide (c.rk (s + 1) < c.rk s)) e).2 := by
          by_cases z : decide (c.rk e < c.rk (e - 1)) = decide (c.rk (s + 1) < c.rk s)
          · rw [re_yes lt z]; exact Nat.succ_pos _
          · rw [re_no lt z]; exact Nat.succ_pos _
        refine ⟨_, rfl, _, _, _, rfl, ha2.hp, rfl, _, rfl, _, rfl, e, 1, rfl, rfl, by omega, c, q1, e, e - 1, rfl, ha2, lt, by omega, by omega, fun H3 f3 ha3 => ?_⟩
        refine ⟨_, rfl, rfl, _, rfl, itD (fun yes => ?_) (fun no => ?_)⟩
        · have yes := V.bl.inj yes
          rw [re_yes lt yes] at g1 g2
          refine ⟨_, fun _ _ h => h, _, rfl, e, 1, rfl, rfl, ?_⟩
          exact ⟨c.n - (e + 1), by omega, e + 1, q1 + 1, rfl, rfl, by omega, by omega, f2.trans f3, ha3, g1, by dsimp only at g2; omega⟩
        · have no : ¬ decide (c.rk e < c.rk (e - 1)) = decide (c.rk (s + 1) < c.rk s) := fun z => no (by rw [z])
          rw [re_no lt no] at g1 g2
          dsimp only at g1 g2
          have FF := f2.trans f3
          have hA := ha3
          have hq : n + ((re c.rk c.n (decide (c.rk (s + 1) < c.rk s)) (s + 2)).2 + 1) = q1 + 1 := by omega
          rw [← g1] at hr2
          have hs1 : s ≤ e := by omega
          refine ⟨_, rfl, ?_⟩
          cases hf : decide (c.rk (s + 1) < c.rk s) with
          | true =>
            rw [hf] at hr2 hq
            refine ⟨_, rfl, _, rfl, _, rfl, e, s, rfl, rfl, hs1, by show 2 ≤ sizeLine; decide, fun t ht => ?_⟩
            refine q t _ (FF.trans (Fr.new ht)) ?_ ?_
            · rw [hr2]
              exact AskAt.keep0 (by rw [hq]; exact hA) (Fr.new ht)
            · rw [upd_same, hr2]; rfl
          | false =>
            rw [hf] at hr2 hq
            refine ⟨_, rfl, _, rfl, _, rfl, e, s, rfl, rfl, hs1, by show 2 ≤ sizeLine; decide, fun t ht => ?_⟩
            refine q t _ (FF.trans (Fr.new ht)) ?_ ?_
            · rw [hr2]
              exact AskAt.keep0 (by rw [hq]; exact hA) (Fr.new ht)
            · rw [upd_same, hr2]; rfl
      · have lt : ¬ e < c.n := by omega
        rw [re_end lt] at g1 g2
        dsimp only at g1 g2
        have FF := f2
        have hA := ha2
        have hq : n + ((re c.rk c.n (decide (c.rk (s + 1) < c.rk s)) (s + 2)).2 + 1) = q1 := by omega
        rw [← g1] at hr2
        have hs1 : s ≤ e := by omega
        refine ⟨_, rfl, ?_⟩
        cases hf : decide (c.rk (s + 1) < c.rk s) with
        | true =>
          rw [hf] at hr2 hq
          refine ⟨_, rfl, _, rfl, _, rfl, e, s, rfl, rfl, hs1, by show 2 ≤ sizeLine; decide, fun t ht => ?_⟩
          refine q t _ (FF.trans (Fr.new ht)) ?_ ?_
          · rw [hr2]
            exact AskAt.keep0 (by rw [hq]; exact hA) (Fr.new ht)
          · rw [upd_same, hr2]; rfl
        | false =>
          rw [hf] at hr2 hq
          refine ⟨_, rfl, _, rfl, _, rfl, e, s, rfl, rfl, hs1, by show 2 ≤ sizeLine; decide, fun t ht => ?_⟩
          refine q t _ (FF.trans (Fr.new ht)) ?_ ?_
          · rw [hr2]
            exact AskAt.keep0 (by rw [hq]; exact hA) (Fr.new ht)
          · rw [upd_same, hr2]; rfl
end
end NR

set_option maxRecDepth 100000
set_option maxHeartbeats 4000000
/-! Runs filled up; the power of a border. -/
namespace NR
open PySem PySem.Spec PyProof.Rows L2 NM
theorem vL_rev (l : List Nat) : (vL l).reverse = vL l.reverse := by unfold vL; rw [List.map_reverse]
def InvF (K : PySem.W.Frag) (c : AC) (q : Nat) (H : Hp) (s f len : Nat) (w' : V) (L : Addr) (m : Nat) (σ : L2.St) (H' : Hp) : Prop :=
  ∃ (l : List Nat) (e q' : Nat), m = c.n - e ∧ σ = [some (.ref c.p), some (vI s), some (vI f), some (vI len), some w', some (.ref L), some (vI e)] ∧ l.length + s = e ∧ e ≤ c.n ∧ (∀ y ∈ l, y < c.n) ∧ Fr [c.l, L] H H' ∧ AskAt K c q' H' ∧ H' L = some (.lst (vL l)) ∧
    (fl c.rk c.n f l e).1 = (filledAt c.rk c.n f s).1 ∧ q' + (fl c.rk c.n f l e).2 = q + (filledAt c.rk c.n f s).2
section
variable {P : Program} {w : World} {K : PySem.W.Frag} {mg : Str → Option Value} {base : Heap}
theorem sc_filled_at : FnScope ["asker", "start", "fill", "length", "way", "line", "end"] ["asker", "start", "fill"] (defScope s_filled_at) := ⟨rfl, rfl, rfl, by decide +kernel, rfl, by decide +kernel, by decide +kernel⟩
theorem ok_filled_at (T : Hd K mg) : DOk P w K mg base 8 "filled_at" ["asker", "start", "fill"] (spFilledAt K) := by
  refine mkD T 32 25 rfl rfl sc_filled_at (fun _ _ _ _ _ _ us hl => match us, hl with | [_, _, _], _ => rfl) (fun vs H Q E h => ?_) (fun cdv A outer s H vs Q E hr h => ?_)
  · obtain ⟨c, q, s, f, rfl, _⟩ := h; rfl
  · obtain ⟨c, n, s, f, rfl, ha, hs, hn, q⟩ := h
    refine ⟨_, (pss_cons (ps_asg (pe_cd (ok_run_at T) (hr.mono (by decide)) (pa_cons (pv 0) (pa_cons (pv 1) pa_nil))) (pg_tup rfl (pgs_cons (pg_name (i := 3) sc_filled_at.nd rfl (Or.inl rfl)) (pgs_cons (pg_name (i := 4) sc_filled_at.nd rfl (Or.inl rfl)) pgs_nil))))
      (pss_cons (ps_set (i := 5) sc_filled_at.nd rfl (Or.inl rfl) (pe_listRg rfl (by rfl) T.f_list (prg_2 (by rfl) T.f_range (pv 1) (pe_op op_addN (pv 1) (pv 3)))))
      (Evl.pss_cut (ps_if (pt_cmpR op_eq (pv 4) pe_str (nomark _))
        (pss_one (ps_expr (pe_bm0 PySem.F.plainAttrs_list PySem.F.slot_list_reverse PySem.F.type_list_reverse mt_reverse (pv 5))))
        pss_nil)
      (pss_cons (ps_set (i := 6) sc_filled_at.nd rfl (Or.inl rfl) (pe_op op_addN (pv 1) (pv 3)))
      (pss_cons (ps_while PassesOwn.never (PW.pt (pw_and (pt_cmpR op_lt (pe_callB call_len_seq (by rfl) T.f_len (by decide +kernel) (pa_cons (pv 5) pa_nil)) (pv 2) (nomark _)) (pw_and1 (pt_cmpR op_lt (pv 6) (pe_md0 (ok_Noted_many T) (hr.mono (by decide)) (pv 0)) (nomark _)))))
        (pss_cons (ps_expr (pe_cd (ok_put_by_halves T) (hr.mono (by decide)) (pa_cons (pv 0) (pa_cons (pv 5) (pa_cons (pv 6) pa_nil)))))
        (pss_one (ps_set (i := 6) sc_filled_at.nd rfl (Or.inl rfl) (pe_op op_addN (pv 6) pe_int)))))
      (pss_one (ps_ret (pe_callTy call_tuple_of (by rfl) T.f_tuple (by decide +kernel) (pa_cons (pv 5) pa_nil))))))))), ?_⟩
    have h60 := ha.ok.n60
    obtain ⟨r1, r2, r3, r4, r5⟩ := run_all (r := c.rk) hs
    have hsum : (fl c.rk c.n f (runLine s (NM.run c.rk c.n s).1 (NM.run c.rk c.n s).2.1) (s + (NM.run c.rk c.n s).1)).2 + (NM.run c.rk c.n s).2.2 = (filledAt c.rk c.n f s).2 := rfl
    have hfst : (fl c.rk c.n f (runLine s (NM.run c.rk c.n s).1 (NM.run c.rk c.n s).2.1) (s + (NM.run c.rk c.n s).1)).1 = (filledAt c.rk c.n f s).1 := rfl
    refine ⟨_, rfl, _, rfl, c, n, s, rfl, ha, hs, by omega, fun t H1 f1 ha1 e1 => ?_⟩
    generalize hr : NM.run c.rk c.n s = R at *
    obtain ⟨len, falls, asks⟩ := R
    dsimp only at r1 r2 r3 r4 r5 hsum hfst e1 ha1
    refine ⟨t, _, rfl, SqT.of e1, rfl, _, _, rfl, _, _, rfl, rfl, ?_⟩
    refine ⟨_, rfl, _, rfl, _, rfl, s, len, rfl, rfl, _, _, rfl, rfl, RgOk.of_le (by omega) (by omega) (by omega) (by omega), fun L hL => ?_⟩
    have hL0 : H L = none := f1.none (by
      intro z
      obtain ⟨bk, eb, _⟩ := ha1.hl
      rw [List.mem_singleton.mp z, eb] at hL
      cases hL) hL
    have nL := ha.newL hL0
    have hLv : upd H1 L (.lst (rgV (s : Int) ((s + len : Nat) : Int))) L = some (.lst (vL (List.range' s len))) := by
      rw [upd_same, show ((s + len : Nat) : Int) = (s : Int) + (len : Int) by omega, rg_vL]
    have ha2 := ha1.keep0 (Fr.new (o := .lst (rgV (s : Int) ((s + len : Nat) : Int))) hL)
    have F2 : Fr [c.l, L] H (upd H1 L (.lst (rgV (s : Int) ((s + len : Nat) : Int)))) := (f1.mono (by simp)).trans (Fr.new hL)
    generalize upd H1 L (.lst (rgV (s : Int) ((s + len : Nat) : Int))) = H2 at *
    refine ⟨fun σ' H' => σ' = [some (.ref c.p), some (vI s), some (vI f), some (vI len), some (.str (dirS falls)), some (.ref L), none] ∧ Fr [c.l, L] H H' ∧ AskAt K c (n + asks) H' ∧ H' L = some (.lst (vL (runLine s len falls))), ?_, ?_⟩
    · refine ⟨_, rfl, rfl, falls, by rw [dir_eq], itB (fun hf => ?_) (fun hf => ?_)⟩
      · subst hf
        refine ⟨_, rfl, .inl ⟨rfl, _, SqL.of hLv⟩, L, _, rfl, rfl, hLv, rfl, F2.trans (Fr.put (by simp) hLv rfl), ha2.putL hLv nL, ?_⟩
        rw [upd_same, vL_rev]; rfl
      · subst hf
        exact ⟨rfl, F2, ha2, hLv⟩
    · rintro σ' H3 ⟨rfl, F3, ha3, hL3⟩
      refine ⟨_, rfl, _, rfl, s, len, rfl, rfl, ?_⟩
      refine ⟨InvF K c n H s f len (.str (dirS falls)) L, ⟨_, runLine s len falls, s + len, n + asks, rfl, rfl, by rw [runLine_length]; omega, r2, fun y hy => ?_, F3, ha3, hL3, hfst, by omega⟩, ?_⟩
      · have := List.mem_range'_1.mp ((runLine_perm s len falls).subset hy)
        omega
      rintro m σ H1 ⟨l, e, q1, rfl, rfl, h1, h2, hlt, f1, ha1, hL1, g1, g2⟩
      refine ⟨_, rfl, L, _, rfl, .inl (SqL.of hL1), _, rfl, _, _, rfl, rfl, _, rfl, itD (fun lt => ?_) (fun nlt => ?_)⟩
      · rw [vL_length] at lt
        refine ⟨_, rfl, _, rfl, _, _, _, rfl, ha1.hp, rfl, c, q1, rfl, ha1, _, _, rfl, rfl, _, rfl, itD (fun lt2 => ?_) (fun nlt => ?_)⟩
        · have hb : l.length < f ∧ e < c.n := by omega
          rw [fl_yes hb] at g1 g2
          dsimp only at g1 g2
          refine ⟨fun σ' H' => ∃ m', m' < c.n - e ∧ InvF K c n H s f len (.str (dirS falls)) L m' σ' H', fun _ _ h => h, ?_⟩
          refine ⟨_, rfl, _, rfl, _, rfl, c, q1, L, l, e, rfl, ha1, hL1, nL, hlt, hb.2, by omega, by omega, fun H4 f4 ha4 e4 => ?_⟩
          refine ⟨_, rfl, e, 1, rfl, rfl, ?_⟩
          have hlen := ph_length c.rk l e
          refine ⟨_, by omega, (ph c.rk l e).1, e + 1, _, rfl, rfl, by omega, by omega, fun y hy => ?_, f1.trans f4, ha4, e4, g1, by omega⟩
          rcases List.mem_cons.mp ((ph_perm c.rk l e).subset hy) with z | z
          · omega
          · exact hlt y z
        · have hx : ¬ (l.length < f ∧ e < c.n) := by omega
          rw [fl_end hx] at g1 g2
          dsimp only at g1 g2
          refine ⟨_, rfl, L, _, rfl, .inl ⟨SqL.of hL1, fun t2 ht2 => ?_⟩⟩
          have F := f1.trans (Fr.new (o := .tup (vL l)) ht2)
          refine q t2 _ (F.drop fun x hx => ?_) ?_ (by rw [upd_same, g1])
          · rcases List.mem_cons.mp hx with e | e
            · exact .inl (by rw [e]; exact List.mem_cons_self)
            · exact .inr (by rw [List.mem_singleton.mp e]; exact hL0)
          · rw [← g2]; exact ha1.keep0 (Fr.new ht2)
      · rw [vL_length] at nlt
        have hx : ¬ (l.length < f ∧ e < c.n) := by omega
        rw [fl_end hx] at g1 g2
        dsimp only at g1 g2
        refine ⟨_, rfl, L, _, rfl, .inl ⟨SqL.of hL1, fun t2 ht2 => ?_⟩⟩
        have F := f1.trans (Fr.new (o := .tup (vL l)) ht2)
        refine q t2 _ (F.drop fun x hx => ?_) ?_ (by rw [upd_same, g1])
        · rcases List.mem_cons.mp hx with e | e
          · exact .inl (by rw [e]; exact List.mem_cons_self)
          · exact .inr (by rw [List.mem_singleton.mp e]; exact hL0)
        · rw [← g2]; exact ha1.keep0 (Fr.new ht2)
/-! ### powers -/
def spPower : Sp := fun vs H Q _ => ∃ (s one other N : Nat), vs = [vI s, vI one, vI other, vI N] ∧ 1 ≤ one ∧ 1 ≤ other ∧ s + one + other ≤ N ∧ N ≤ 1000 ∧ Q (vI (pbw s one other N)) H
theorem sc_power_between : FnScope ["start", "one", "other", "many", "whole", "left", "right", "power"] ["start", "one", "other", "many"] (defScope s_power_between) := ⟨rfl, rfl, rfl, by decide +kernel, rfl, by decide +kernel, by decide +kernel⟩
theorem ok_power_between (T : Hd K mg) : DOk P w K mg base 1 "power_between" ["start", "one", "other", "many"] spPower := by
  refine mkD T 26 19 rfl rfl sc_power_between (fun _ _ _ _ _ _ us hl => match us, hl with | [_, _, _, _], _ => rfl) (fun vs H Q E h => ?_) (fun cdv A outer s H vs Q E hr h => ?_)
  · obtain ⟨s, one, other, N, rfl, _⟩ := h; rfl
  · obtain ⟨s, one, other, N, rfl, h1, h2, hN, h1000, q⟩ := h
    refine ⟨_, (pss_cons (ps_set (i := 4) sc_power_between.nd rfl (Or.inl rfl) (pe_op op_mulN pe_int (pv 3)))
      (pss_cons (ps_set (i := 5) sc_power_between.nd rfl (Or.inl rfl) (pe_op op_mulN pe_int (pe_op op_addN (pe_op op_mulN pe_int (pv 0)) (pv 1))))
      (pss_cons (ps_set (i := 6) sc_power_between.nd rfl (Or.inl rfl) (pe_op op_mulN pe_int (pe_op op_addN (pe_op op_addN (pe_op op_mulN pe_int (pv 0)) (pe_op op_mulN pe_int (pv 1))) (pv 2))))
      (pss_cons (ps_set (i := 7) sc_power_between.nd rfl (Or.inl rfl) pe_int)
      (pss_cons (ps_while PassesOwn.never (pt_cmpR op_eq (pe_op op_fdivNN (pv 5) (pv 4)) (pe_op op_fdivNN (pv 6) (pv 4)) (nomark _))
        (pss_cons (ps_set (i := 5) sc_power_between.nd rfl (Or.inl rfl) (pe_op op_mulN pe_int (pv 5)))
        (pss_cons (ps_set (i := 6) sc_power_between.nd rfl (Or.inl rfl) (pe_op op_mulN pe_int (pv 6)))
        (pss_one (ps_set (i := 7) sc_power_between.nd rfl (Or.inl rfl) (pe_op op_addN (pv 7) pe_int))))))
      (pss_one (ps_ret (pv 7)))))))), ?_⟩
    have hp := pbw_is (s := s) (one := one) (other := other) (N := N) h1 h2 hN
    generalize pbw s one other N = Ps at *
    refine ⟨_, rfl, 2, N, rfl, rfl, by decide, ?_⟩
    refine ⟨_, rfl, 2, s, rfl, rfl, by decide, _, rfl, 2 * s, one, rfl, rfl, 2, 2 * s + one, rfl, rfl, by decide, ?_⟩
    refine ⟨_, rfl, 2, s, rfl, rfl, by decide, _, rfl, 2, one, rfl, rfl, by decide, 2 * s, 2 * one, rfl, rfl, _, rfl, 2 * s + 2 * one, other, rfl, rfl, 2, 2 * s + 2 * one + other, rfl, rfl, by decide, ?_⟩
    have hw : 1 ≤ 2 * N ∧ 2 * N < 1073741824 := by omega
    refine ⟨fun m σ H' => ∃ (P u v : Nat), m = Ps - P ∧ σ = [some (vI s), some (vI one), some (vI other), some (vI N), some (vI (2 * N)), some (vI u), some (vI v), some (vI P)] ∧ u = (2 * s + one) * 2 ^ P ∧ v = (2 * s + 2 * one + other) * 2 ^ P ∧ 1 ≤ P ∧ P ≤ Ps ∧ H' = H,
      ⟨_, 1, _, _, rfl, rfl, by omega, by omega, Nat.le_refl _, hp.pos, rfl⟩, ?_⟩
    rintro m σ H1 ⟨P, u, v, rfl, rfl, hu, hv, hP1, hP2, rfl⟩
    refine ⟨_, rfl, _, rfl, u, 2 * N, rfl, rfl, hw, _, rfl, _, rfl, v, 2 * N, rfl, rfl, hw, rfl, _, rfl, itD (fun e => ?_) (fun ne => ?_)⟩
    · have e := V.int.inj e
      have e : lv N P (2 * s + one) = lv N P (2 * s + 2 * one + other) := by
        unfold lv
        rw [← hu, ← hv]
        omega
      have hlt : P < Ps := by
        rcases Nat.lt_or_ge P Ps with k | k
        · exact k
        · rw [show P = Ps by omega] at e
          exact absurd e hp.ne
      refine ⟨_, fun _ _ h => h, _, rfl, 2, u, rfl, rfl, by decide, _, rfl, 2, v, rfl, rfl, by decide, _, rfl, P, 1, rfl, rfl, ?_⟩
      exact ⟨Ps - (P + 1), by omega, P + 1, _, _, rfl, rfl, by rw [hu, Nat.pow_succ, Nat.mul_left_comm, Nat.mul_comm (2 ^ P) 2], by rw [hv, Nat.pow_succ, Nat.mul_left_comm, Nat.mul_comm (2 ^ P) 2], by omega, by omega, rfl⟩
    · have hPs : P = Ps := by
        rcases Nat.lt_or_ge P Ps with k | k
        · have := hp.eq P k
          unfold lv at this
          rw [← hu, ← hv] at this
          exact absurd (by rw [this]) ne
        · omega
      rw [← hPs] at q
      exact ⟨_, rfl, q⟩
end
end NR

set_option maxRecDepth 100000
set_option maxHeartbeats 4000000
/-! The pile. -/
namespace NR
open PySem PySem.Spec PyProof.Rows L2 NM
def EntAt (H : Hp) (v : V) (e : Ent) : Prop := ∃ a la : Addr, v = .ref a ∧ H a = some (.tup [vI e.start, .ref la, vI e.power]) ∧ H la = some (.tup (vL e.line))
theorem EntAt.keep {xs : List Addr} {H H' : Hp} {v : V} {e : Ent} (h : EntAt H v e) (f : Fr xs H H') : EntAt H' v e := by
  obtain ⟨a, la, h1, h2, h3⟩ := h
  exact ⟨a, la, h1, f.tup _ _ h2, f.tup _ _ h3⟩
/-- the pile, its topmost first -/
def PileAt (H : Hp) (PL : Addr) (es : List Ent) : Prop := ∃ vs : List V, H PL = some (.lst vs.reverse) ∧ Paired (EntAt H) vs es
theorem pair_keep {xs : List Addr} {H H' : Hp} (f : Fr xs H H') : ∀ {vs : List V} {es : List Ent}, Paired (EntAt H) vs es → Paired (EntAt H') vs es
  | _, _, .nil => .nil
  | _, _, .cons h t => .cons (h.keep f) (pair_keep f t)
theorem PileAt.keep {xs : List Addr} {H H' : Hp} {PL : Addr} {es : List Ent} (h : PileAt H PL es) (f : Fr xs H H') (n : PL ∉ xs) : PileAt H' PL es := by
  obtain ⟨vs, h1, h2⟩ := h
  exact ⟨vs, f.keep _ _ n h1, pair_keep f h2⟩
theorem rev_last (v : V) (vs : List V) : (v :: vs).reverse[(v :: vs).reverse.length - 1]? = some v ∧ (v :: vs).reverse.dropLast = vs.reverse := by
  rw [List.reverse_cons]
  refine ⟨?_, List.dropLast_concat⟩
  rw [List.length_append, List.length_singleton, Nat.add_sub_cancel, List.getElem?_append_right (Nat.le_refl _), Nat.sub_self]
  rfl
def Bnd (n : Nat) (es : List Ent) : Prop := ∀ e ∈ es, (∀ y ∈ e.line, y < n) ∧ e.line.length ≤ n
theorem PileC.bnd {rk : Nat → Nat} : ∀ {es : List Ent} {p : Nat} (_ : PileC rk es p) (n : Nat), p ≤ n → Bnd n es
  | [], _, _, _, _ => fun e he => nomatch he
  | e :: es, p, h, n, hn => fun x hx => by
    rcases List.mem_cons.mp hx with z | z
    · subst z
      exact ⟨fun y hy => Nat.lt_of_lt_of_le (h.mem hy).2 hn, by have := h.1; omega⟩
    · exact PileC.bnd h.2.2.2.2 n (by have := h.1; omega) x z
def spPourTop (K : PySem.W.Frag) : Sp := fun vs H Q _ => ∃ (c : AC) (q : Nat) (PL : Addr) (e1 e2 : Ent) (es : List Ent) (m : Bool), vs = [.ref c.p, .ref PL, .str (manS m)] ∧ AskAt K c q H ∧ PileAt H PL (e1 :: e2 :: es) ∧ PL ≠ c.l ∧ Bnd c.n (e1 :: e2 :: es) ∧ es.length ≤ 1000 ∧
  q + (pr c.rk m e2.line e1.line).2 < 90000 ∧ ∀ H', Fr [c.l, PL] H H' → AskAt K c (q + (pr c.rk m e2.line e1.line).2) H' → PileAt H' PL (⟨e2.start, (pr c.rk m e2.line e1.line).1, e2.power⟩ :: es) → Q .non H'
section
variable {P : Program} {w : World} {K : PySem.W.Frag} {mg : Str → Option Value} {base : Heap}
theorem sc_pour_top : FnScope ["asker", "pile", "manner", "upper", "lower"] ["asker", "pile", "manner"] (defScope s_pour_top) := ⟨rfl, rfl, rfl, by decide +kernel, rfl, by decide +kernel, by decide +kernel⟩
theorem ok_pour_top (T : Hd K mg) : DOk P w K mg base 10 "pour_top" ["asker", "pile", "manner"] (spPourTop K) := by
  refine mkD T 33 26 rfl rfl sc_pour_top (fun _ _ _ _ _ _ us hl => match us, hl with | [_, _, _], _ => rfl) (fun vs H Q E h => ?_) (fun cdv A outer s H vs Q E hr h => ?_)
  · obtain ⟨c, q, PL, e1, e2, es, m, rfl, _⟩ := h; rfl
  · obtain ⟨c, n, PL, e1, e2, es, m, rfl, ha, ⟨vs, hP, hp⟩, nP, hb, hes, hn, q⟩ := h
    refine ⟨_, (pss_cons (ps_set (i := 3) sc_pour_top.nd rfl (Or.inl rfl) (pe_bm0 PySem.F.plainAttrs_list PySem.F.slot_list_pop PySem.F.type_list_pop mt_pop (pv 1)))
      (pss_cons (ps_set (i := 4) sc_pour_top.nd rfl (Or.inl rfl) (pe_bm0 PySem.F.plainAttrs_list PySem.F.slot_list_pop PySem.F.type_list_pop mt_pop (pv 1)))
      (pss_one (ps_expr (pe_bm PySem.F.plainAttrs_list PySem.F.slot_list_append PySem.F.type_list_append mt_append (pv 1) (pa_cons (pe_tup (pa_cons (pe_ix ix_tup (pv 4) pe_int (fun _ _ => rfl)) (pa_cons (pe_cd (ok_pour T) (hr.mono (by decide)) (pa_cons (pv 0) (pa_cons (pe_ix ix_tup (pv 4) pe_int (fun _ _ => rfl)) (pa_cons (pe_ix ix_tup (pv 3) pe_int (fun _ _ => rfl)) (pa_cons (pv 2) pa_nil))))) (pa_cons (pe_ix ix_tup (pv 4) pe_int (fun _ _ => rfl)) pa_nil)))) pa_nil)))))), ?_⟩
    have h60 := ha.ok.n60
    cases hp with
    | cons h1 hp =>
      cases hp with
      | cons h2 hp =>
        rename_i v1 v2 vs
        obtain ⟨a1, la1, rfl, t1, l1⟩ := h1
        obtain ⟨a2, la2, rfl, t2, l2⟩ := h2
        refine ⟨_, rfl, .inl ⟨rfl, _, SqL.of hP⟩, PL, _, _, rfl, rfl, hP, (rev_last _ _).1, ?_⟩
        rw [(rev_last _ _).2]
        have f1 : Fr [PL] H (upd H PL (.lst (V.ref a2 :: vs).reverse)) := Fr.put1 hP rfl
        have hP1 : upd H PL (.lst (V.ref a2 :: vs).reverse) PL = some (.lst (V.ref a2 :: vs).reverse) := upd_same
        refine ⟨_, rfl, .inl ⟨rfl, _, SqL.of hP1⟩, PL, _, _, rfl, rfl, hP1, (rev_last _ _).1, ?_⟩
        rw [(rev_last _ _).2]
        have f2 := f1.trans (Fr.put1 (o := .lst vs.reverse) hP1 rfl)
        have hP2 : upd (upd H PL (.lst (V.ref a2 :: vs).reverse)) PL (.lst vs.reverse) PL = some (.lst vs.reverse) := upd_same
        have ha2 : AskAt K c n (upd (upd H PL (.lst (V.ref a2 :: vs).reverse)) PL (.lst vs.reverse)) := (ha.putL hP nP).putL hP1 nP
        generalize upd (upd H PL (.lst (V.ref a2 :: vs).reverse)) PL (.lst vs.reverse) = H2 at *
        refine ⟨_, rfl, .inl ⟨rfl, _, SqL.of hP2⟩, ?_⟩
        refine ⟨_, rfl, a2, _, _, _, rfl, rfl, SqT.of (f2.tup _ _ t2), rfl, ?_⟩
        refine ⟨_, rfl, _, rfl, a2, _, _, _, rfl, rfl, SqT.of (f2.tup _ _ t2), rfl, _, rfl, a1, _, _, _, rfl, rfl, SqT.of (f2.tup _ _ t1), rfl, _, rfl, ?_⟩
        have b1 := hb e1 (by simp)
        have b2 := hb e2 (by simp)
        refine ⟨_, _, _, m, rfl, c, n, la2, la1, e2.line, e1.line, rfl, ha2, f2.tup _ _ l2, f2.tup _ _ l1, b2.1, b1.1, by omega, hn, fun t H3 f3 ha3 e3 => ?_⟩
        refine ⟨_, rfl, a2, _, _, _, rfl, rfl, SqT.of (f3.tup _ _ (f2.tup _ _ t2)), rfl, by show 3 ≤ sizeLine; decide, fun T hT => ?_⟩
        have hP3 := f3.keep PL _ (by simpa using nP) hP2
        have nPT : PL ≠ T := ne_of_none hP3 hT
        have hP4 : upd H3 T (.tup [vI e2.start, .ref t, vI e2.power]) PL = some (.lst vs.reverse) := by rw [upd_ne nPT]; exact hP3
        have hlen : vs.length ≤ 1000 := by rw [Paired.length hp]; exact hes
        refine ⟨PL, _, _, rfl, rfl, hP4, by rw [List.length_reverse]; exact sz_lt (by omega), ?_⟩
        have F : Fr [c.l, PL] H (upd (upd H3 T (.tup [vI e2.start, .ref t, vI e2.power])) PL (.lst (vs.reverse ++ [V.ref T]))) :=
          (((f2.mono (ys := [c.l, PL]) (by simp)).trans (f3.mono (by simp))).trans (Fr.new hT)).trans (Fr.put (by simp) hP4 rfl)
        have fT : Fr [PL] H3 (upd (upd H3 T (.tup [vI e2.start, .ref t, vI e2.power])) PL (.lst (vs.reverse ++ [V.ref T]))) := (Fr.new hT).trans (Fr.put1 hP4 rfl)
        refine q _ F ((ha3.keep0 (Fr.new hT)).putL hP4 nP) ⟨V.ref T :: vs, by rw [upd_same, List.reverse_cons], .cons ⟨T, t, rfl, ?_, fT.tup _ _ e3⟩ (pair_keep F hp)⟩
        rw [upd_ne nPT.symm, upd_same]
/-! ### the pile as data -/
def dE (e : Ent) : PyData := .tuple [.int (e.start : Int), .tuple (dI e.line), .int (e.power : Int)]
theorem dp_ent {H : Hp} {v : V} {e : Ent} (h : EntAt H v e) : Dp K H v (dE e) := by
  obtain ⟨a, la, rfl, h2, h3⟩ := h
  exact .tup (SqT.of h2) (.cons (.int _) (.cons (dp_tup h3) (.cons (.int _) .nil)))
theorem dp_ents {H : Hp} : ∀ {vs : List V} {es : List Ent}, Paired (EntAt H) vs es → DpAll K H vs (es.map dE)
  | _, _, .nil => .nil
  | _, _, .cons h t => .cons (dp_ent h) (dp_ents t)
theorem dpAll_app {H : Hp} : ∀ {vs ws : List V} {ds es : List PyData}, DpAll K H vs ds → DpAll K H ws es → DpAll K H (vs ++ ws) (ds ++ es)
  | _, _, _, _, .nil, h => h
  | _, _, _, _, .cons a t, h => .cons a (dpAll_app t h)
theorem dpAll_rev {H : Hp} : ∀ {vs : List V} {ds : List PyData}, DpAll K H vs ds → DpAll K H vs.reverse ds.reverse
  | _, _, .nil => .nil
  | _, _, .cons a t => by
    rw [List.reverse_cons, List.reverse_cons]
    exact dpAll_app (dpAll_rev t) (.cons a .nil)
theorem ent_lay (e : Ent) : PyData.canLay0 (dE e) = true ∧ PyData.depth (dE e) = 2 := by
  constructor
  · show (PyData.canLay0 (.int (e.start : Int)) && (PyData.canLayAll0 (dI e.line) && (PyData.canLay0 (.int (e.power : Int)) && true))) = true
    rw [lay_all]; rfl
  · show max (PyData.depth (.int (e.start : Int))) (max (PyData.depthAll (dI e.line) + 1) (max (PyData.depth (.int (e.power : Int))) 0)) + 1 = 2
    rw [dep_all]; rfl
theorem ents_lay : ∀ ds : List PyData, (∀ d ∈ ds, PyData.canLay0 d = true ∧ PyData.depth d = 2) → PyData.canLayAll0 ds = true ∧ PyData.depthAll ds ≤ 2
  | [], _ => ⟨rfl, Nat.zero_le _⟩
  | d :: ds, h => by
    obtain ⟨h1, h2⟩ := h d List.mem_cons_self
    obtain ⟨i1, i2⟩ := ents_lay ds fun x hx => h x (List.mem_cons_of_mem _ hx)
    constructor
    · show (PyData.canLay0 d && PyData.canLayAll0 ds) = true
      rw [h1, i1]; rfl
    · show max (PyData.depth d) (PyData.depthAll ds) ≤ 2
      omega
theorem pile_shaped (es : List Ent) : SeqAt.shaped (.list (es.map dE).reverse) = true := by
  obtain ⟨h1, h2⟩ := ents_lay (es.map dE).reverse (fun d hd => by
    obtain ⟨e, _, rfl⟩ := List.mem_map.mp (List.mem_reverse.mp hd)
    exact ent_lay e)
  show (PyData.canLayAll0 (es.map dE).reverse && decide (PyData.depthAll (es.map dE).reverse + 1 ≤ 64)) = true
  rw [h1, decide_eq_true (by omega)]; rfl
theorem pile_nil (es : List Ent) : PyData.eqv (.list (es.map dE).reverse) (.list []) = decide (es = []) := by
  cases es with
  | nil => rfl
  | cons e es =>
    have : ((e :: es).map dE).reverse ≠ [] := by simp
    cases h : ((e :: es).map dE).reverse with
    | nil => exact absurd h this
    | cons d ds => rfl
theorem pile_dp {H : Hp} {PL : Addr} {es : List Ent} (h : PileAt H PL es) : Dp K H (.ref PL) (.list (es.map dE).reverse) := by
  obtain ⟨vs, h1, h2⟩ := h
  exact .lst (SqL.of h1) (dpAll_rev (dp_ents h2))
theorem ne_pile {H : Hp} {PL b : Addr} {es : List Ent} {Q : VK} (h : PileAt H PL es) (h2 : H b = some (.lst [])) (q : Q (.bl (!decide (es = []))) H) : rNeD K (.ref PL) (.ref b) H Q :=
  ⟨_, _, pile_dp h, .lst (SqL.of h2) .nil, pile_shaped es, rfl, by rw [pile_nil]; exact q⟩
theorem eq_pile {H : Hp} {PL b : Addr} {es : List Ent} {Q : VK} (h : PileAt H PL es) (h2 : H b = some (.lst [])) (q : Q (.bl (decide (es = []))) H) : rEqD K (.ref PL) (.ref b) H Q :=
  ⟨_, _, pile_dp h, .lst (SqL.of h2) .nil, pile_shaped es, rfl, by rw [pile_nil]; exact q⟩
end
end NR

set_option maxRecDepth 100000
set_option maxHeartbeats 4000000
/-! The whole row put in order by its runs. -/
namespace NR
open PySem PySem.Spec PyProof.Rows L2 NM
def spOrdered (K : PySem.W.Frag) : Sp := fun vs H Q _ => ∃ (c : AC) (q f : Nat) (m : Bool), vs = [.ref c.p, vI f, .str (manS m)] ∧ AskAt K c q H ∧ 1 ≤ f ∧ f ≤ 64 ∧ q + (ordF c.rk c.n f m).2 < 90000 ∧
  ∀ t H', Fr [c.l] H H' → AskAt K c (q + (ordF c.rk c.n f m).2) H' → H' t = some (.tup (vL (arr c.rk c.n))) → Q (.ref t) H'
theorem pileC_len {rk : Nat → Nat} : ∀ {es : List Ent} {p : Nat}, PileC rk es p → es.length ≤ p
  | [], _, _ => Nat.zero_le _
  | e :: es, p, h => by
    have := pileC_len h.2.2.2.2
    have := h.1
    have := h.2.1
    rw [List.length_cons]
    omega
theorem om_stop {r : Nat → Nat} {N fill : Nat} {m : Bool} {k place : Nat} {es : List Ent} (h : ¬ place < N) : om r N fill m k place es = fin r m es := by
  cases k with
  | zero => rfl
  | succ k => unfold om; rw [if_neg h]
theorem om_go {r : Nat → Nat} {N fill : Nat} {m : Bool} {k place : Nat} {es : List Ent} (h : place < N) {z : List Nat × Nat} (hz : filledAt r N fill place = z) {pw : Nat} (hp : topPow N es z.1.length = pw) : om r N fill m (k + 1) place es =
    ((om r N fill m k (place + z.1.length) (⟨place, z.1, pw⟩ :: (cl r m pw es).1)).1, (om r N fill m k (place + z.1.length) (⟨place, z.1, pw⟩ :: (cl r m pw es).1)).2 + (cl r m pw es).2 + z.2) := by
  conv => lhs; unfold om
  rw [if_pos h, hz, hp]
def InvO (K : PySem.W.Frag) (c : AC) (q : Nat) (H : Hp) (f : Nat) (m : Bool) (PL : Addr) (mm : Nat) (σ : L2.St) (H' : Hp) : Prop :=
  ∃ (k place q' : Nat) (es : List Ent) (z1 z2 : Option V), mm = c.n - place ∧ σ = [some (.ref c.p), some (vI f), some (.str (manS m)), some (vI c.n), some (.ref PL), some (vI place), z1, z2] ∧ c.n - place ≤ k ∧ place ≤ c.n ∧ PileC c.rk es place ∧ Fr [c.l, PL] H H' ∧ AskAt K c q' H' ∧ PileAt H' PL es ∧
    (om c.rk c.n f m k place es).1 = arr c.rk c.n ∧ q' + (om c.rk c.n f m k place es).2 = q + (ordF c.rk c.n f m).2
/-- while the pile is poured ahead of a new run -/
def InvOc (K : PySem.W.Frag) (c : AC) (H : Hp) (m : Bool) (PL : Addr) (pw place tot : Nat) (es0 : List Ent) (σ0 : L2.St) (mm : Nat) (σ : L2.St) (H' : Hp) : Prop :=
  ∃ (q' : Nat) (es : List Ent), mm = es.length ∧ σ = σ0 ∧ PileC c.rk es place ∧ Fr [c.l, PL] H H' ∧ AskAt K c q' H' ∧ PileAt H' PL es ∧ (cl c.rk m pw es).1 = (cl c.rk m pw es0).1 ∧ q' + (cl c.rk m pw es).2 = tot
def InvOf (K : PySem.W.Frag) (c : AC) (H : Hp) (m : Bool) (PL : Addr) (tot : Nat) (σ0 : L2.St) (mm : Nat) (σ : L2.St) (H' : Hp) : Prop :=
  ∃ (q' : Nat) (es : List Ent), mm = es.length ∧ σ = σ0 ∧ PileC c.rk es c.n ∧ Fr [c.l, PL] H H' ∧ AskAt K c q' H' ∧ PileAt H' PL es ∧ (fin c.rk m es).1 = arr c.rk c.n ∧ q' + (fin c.rk m es).2 = tot
section
variable {P : Program} {w : World} {K : PySem.W.Frag} {mg : Str → Option Value} {base : Heap}
theorem pile_get {H : Hp} {PL : Addr} {e : Ent} {es : List Ent} (h : PileAt H PL (e :: es)) : ∃ (a la : Addr) (xs : List V), H PL = some (.lst (xs ++ [V.ref a])) ∧ xs.length = es.length ∧ H a = some (.tup [vI e.start, .ref la, vI e.power]) ∧ H la = some (.tup (vL e.line)) := by
  obtain ⟨vs, h1, h2⟩ := h
  cases h2 with
  | cons h3 h4 =>
    rename_i v vs
    obtain ⟨a, la, rfl, t1, t2⟩ := h3
    rw [List.reverse_cons] at h1
    exact ⟨a, la, vs.reverse, h1, by rw [List.length_reverse, Paired.length h4], t1, t2⟩
theorem sc_ordered : FnScope ["asker", "fill", "manner", "many", "pile", "place", "line", "power"] ["asker", "fill", "manner"] (defScope s_ordered) := ⟨rfl, rfl, rfl, by decide +kernel, rfl, by decide +kernel, by decide +kernel⟩
theorem ok_ordered (T : Hd K mg) : DOk P w K mg base 11 "ordered" ["asker", "fill", "manner"] (spOrdered K) := by
  refine mkD T 34 27 rfl rfl sc_ordered (fun _ _ _ _ _ _ us hl => match us, hl with | [_, _, _], _ => rfl) (fun vs H Q E h => ?_) (fun cdv A outer s H vs Q E hr h => ?_)
  · obtain ⟨c, q, f, m, rfl, _⟩ := h; rfl
  · obtain ⟨c, n, f, m, rfl, ha, h1, h64, hn, q⟩ := h
    refine ⟨_, (pss_cons (ps_expr (pe_cd (ok_check_fill T) (hr.mono (by decide)) (pa_cons (pv 1) pa_nil)))
      (pss_cons (ps_expr (pe_cd (ok_check_manner T) (hr.mono (by decide)) (pa_cons (pv 2) pa_nil)))
      (pss_cons (ps_set (i := 3) sc_ordered.nd rfl (Or.inl rfl) (pe_md0 (ok_Noted_many T) (hr.mono (by decide)) (pv 0)))
      (pss_cons (ps_set (i := 4) sc_ordered.nd rfl (Or.inl rfl) (pe_lst pa_nil))
      (pss_cons (ps_set (i := 5) sc_ordered.nd rfl (Or.inl rfl) pe_int)
      (pss_cons (ps_while PassesOwn.never (pt_cmpR op_lt (pv 5) (pv 3) (nomark _))
        (pss_cons (ps_set (i := 6) sc_ordered.nd rfl (Or.inl rfl) (pe_cd (ok_filled_at T) (hr.mono (by decide)) (pa_cons (pv 0) (pa_cons (pv 5) (pa_cons (pv 1) pa_nil)))))
        (pss_cons (ps_set (i := 7) sc_ordered.nd rfl (Or.inl rfl) pe_int)
        (Evl.pss_cut (ps_if (pt_cmpR (op_neD hr.units) (pv 4) (pe_lst pa_nil) (nomark _))
          (pss_one (ps_set (i := 7) sc_ordered.nd rfl (Or.inl rfl) (pe_cd (ok_power_between T) (hr.mono (by decide)) (pa_cons (pe_ix ix_tup (pe_ix ix_list (pv 4) (pe_un un_neg pe_int) (fun _ _ => rfl)) pe_int (fun _ _ => rfl)) (pa_cons (pe_callB call_len_seq (by rfl) T.f_len (by decide +kernel) (pa_cons (pe_ix ix_tup (pe_ix ix_list (pv 4) (pe_un un_neg pe_int) (fun _ _ => rfl)) pe_int (fun _ _ => rfl)) pa_nil)) (pa_cons (pe_callB call_len_seq (by rfl) T.f_len (by decide +kernel) (pa_cons (pv 6) pa_nil)) (pa_cons (pv 3) pa_nil)))))))
          pss_nil)
        (Evl.pss_cut (ps_while PassesOwn.never (PW.pt (pw_and (pt_cmpR op_gt (pe_callB call_len_seq (by rfl) T.f_len (by decide +kernel) (pa_cons (pv 4) pa_nil)) pe_int (nomark _)) (pw_and1 (pt_cmpR op_gt (pe_ix ix_tup (pe_ix ix_list (pv 4) (pe_un un_neg pe_int) (fun _ _ => rfl)) pe_int (fun _ _ => rfl)) (pv 7) (nomark _)))))
          (pss_one (ps_expr (pe_cd (ok_pour_top T) (hr.mono (by decide)) (pa_cons (pv 0) (pa_cons (pv 4) (pa_cons (pv 2) pa_nil)))))))
        (pss_cons (ps_expr (pe_bm PySem.F.plainAttrs_list PySem.F.slot_list_append PySem.F.type_list_append mt_append (pv 4) (pa_cons (pe_tup (pa_cons (pv 5) (pa_cons (pv 6) (pa_cons (pv 7) pa_nil)))) pa_nil)))
        (pss_one (ps_set (i := 5) sc_ordered.nd rfl (Or.inl rfl) (pe_op op_addN (pv 5) (pe_callB call_len_seq (by rfl) T.f_len (by decide +kernel) (pa_cons (pv 6) pa_nil)))))))))))
      (pss_cons (ps_while PassesOwn.never (pt_cmpR op_gt (pe_callB call_len_seq (by rfl) T.f_len (by decide +kernel) (pa_cons (pv 4) pa_nil)) pe_int (nomark _))
        (pss_one (ps_expr (pe_cd (ok_pour_top T) (hr.mono (by decide)) (pa_cons (pv 0) (pa_cons (pv 4) (pa_cons (pv 2) pa_nil)))))))
      (pss_cons (ps_if (pt_cmpR (op_eqD hr.units) (pv 4) (pe_lst pa_nil) (nomark _))
        (pss_one (ps_ret (pe_tup pa_nil)))
        pss_nil)
      (pss_one (ps_ret (pe_ix ix_tup (pe_ix ix_list (pv 4) pe_int (fun _ _ => rfl)) pe_int (fun _ _ => rfl)))))))))))), ?_⟩
    have h60 := ha.ok.n60
    refine ⟨_, rfl, f, rfl, h1, h64, ?_⟩
    refine ⟨_, rfl, m, rfl, fun H1 f1 => ?_⟩
    have ha1 := ha.keep0 f1
    refine ⟨_, rfl, _, _, _, rfl, ha1.hp, rfl, c, n, rfl, ha1, ?_⟩
    refine ⟨Nat.zero_le _, fun PL hPL => ?_⟩
    have hPL0 := f1.none (by simp) hPL
    have nP := ha.newL hPL0
    have f2 : Fr [] H (upd H1 PL (.lst [])) := f1.trans (Fr.new hPL)
    refine ⟨InvO K c n H f m PL, ⟨_, c.n, 0, n, [], none, none, rfl, rfl, by omega, Nat.zero_le _, rfl, f2.mono (fun b hb => by cases hb), ha.keep0 f2, ⟨[], upd_same, .nil⟩, ordF_arr c.rk c.n f m, rfl⟩, ?_⟩
    rintro mm σ H2 ⟨k, place, q1, es, z1, z2, rfl, rfl, hk, hp, hC, F2, ha2, hP2, g1, g2⟩
    refine ⟨_, rfl, _, rfl, _, _, rfl, rfl, _, rfl, itD (fun lt => ?_) (fun nlt => ?_)⟩
    · have lt : place < c.n := by omega
      obtain ⟨k, rfl⟩ : ∃ j, k = j + 1 := ⟨k - 1, by omega⟩
      obtain ⟨d1, d2, d3, d4, d5, d6, d7⟩ := filledAt_all (r := c.rk) f lt
      generalize hz : filledAt c.rk c.n f place = z at *
      generalize hpw : topPow c.n es z.1.length = pw at *
      rw [om_go lt hz hpw] at g1 g2
      dsimp only at g1 g2
      refine ⟨fun σ' H' => ∃ m', m' < c.n - place ∧ InvO K c n H f m PL m' σ' H', fun _ _ h => h, ?_⟩
      refine ⟨_, rfl, _, rfl, _, rfl, c, q1, place, f, rfl, ha2, lt, by rw [hz]; omega, fun t H3 f3 ha3 e3 => ?_⟩
      rw [hz] at ha3 e3
      have hP3 := hP2.keep f3 (by simpa using nP)
      have F3 := F2.trans (f3.mono (ys := [c.l, PL]) (by simp))
      -- the power
      refine ⟨fun σ' H' => σ' = [some (.ref c.p), some (vI f), some (.str (manS m)), some (vI c.n), some (.ref PL), some (vI place), some (.ref t), some (vI pw)] ∧ Fr [] H3 H', ?_, ?_⟩
      · refine ⟨_, rfl, Nat.zero_le _, fun b hb => ?_⟩
        have fb : Fr [] H3 (upd H3 b (.lst [])) := Fr.new hb
        refine ne_pile (hP3.keep fb (by simp)) upd_same ?_
        refine ⟨_, rfl, itN (fun ne => ?_) (fun e => ?_)⟩
        · cases es with
          | nil => exact absurd rfl ne
          | cons e es =>
            obtain ⟨a, la, xs, p1, p2, p3, p4⟩ := pile_get (hP3.keep fb (by simp))
            have hlen := hC.1
            have hl1 := hC.2.1
            refine ⟨_, rfl, 1, rfl, PL, _, _, _, rfl, rfl, SqL.of p1, atI_last _ _, a, _, _, _, rfl, rfl, SqT.of p3, rfl, ?_⟩
            refine ⟨_, rfl, 1, rfl, PL, _, _, _, rfl, rfl, SqL.of p1, atI_last _ _, a, _, _, _, rfl, rfl, SqT.of p3, rfl, la, _, rfl, .inr (SqT.of p4), ?_⟩
            refine ⟨_, rfl, t, _, rfl, .inr (SqT.of (fb.tup _ _ e3)), _, rfl, e.start, (vL e.line).length, (vL z.1).length, c.n, rfl, by rw [vL_length]; exact hl1, by rw [vL_length]; exact d1, by rw [vL_length, vL_length]; omega, by omega, ?_⟩
            rw [vL_length, vL_length, show pbw e.start e.line.length z.1.length c.n = pw from hpw]
            exact ⟨rfl, fb⟩
        · subst e
          rw [show pw = 0 from hpw.symm]
          exact ⟨rfl, fb⟩
      · rintro σ' H4 ⟨rfl, f4⟩
        have ha4 := ha3.keep0 f4
        have hP4 := hP3.keep f4 (by simp)
        have F4 := F3.trans (f4.mono (ys := [c.l, PL]) (fun b hb => by cases hb))
        have e4 := f4.tup _ _ e3
        refine ⟨fun σ' H' => ∃ q' : Nat, σ' = [some (.ref c.p), some (vI f), some (.str (manS m)), some (vI c.n), some (.ref PL), some (vI place), some (.ref t), some (vI pw)] ∧ Fr [c.l, PL] H H' ∧ AskAt K c q' H' ∧ PileAt H' PL (cl c.rk m pw es).1 ∧ q' = q1 + z.2 + (cl c.rk m pw es).2 ∧ H' t = some (.tup (vL z.1)), ?_, ?_⟩
        · refine ⟨fun mm σ H' => InvOc K c H m PL pw place (q1 + z.2 + (cl c.rk m pw es).2) es [some (.ref c.p), some (vI f), some (.str (manS m)), some (vI c.n), some (.ref PL), some (vI place), some (.ref t), some (vI pw)] mm σ H' ∧ H' t = some (.tup (vL z.1)), ⟨_, ⟨_, es, rfl, rfl, hC, F4, ha4, hP4, rfl, rfl⟩, e4⟩, ?_⟩
          rintro mm σ H5 ⟨⟨q2, es5, rfl, rfl, hC5, F5, ha5, hP5, w1, w2⟩, e5⟩
          obtain ⟨vs5, hv5, hpr5⟩ := id hP5
          refine ⟨_, rfl, PL, _, rfl, .inl (SqL.of hv5), _, _, rfl, rfl, _, rfl, itD (fun gt => ?_) (fun ngt => ?_)⟩
          · have gt : 1 < es5.length := by
              rw [List.length_reverse, Paired.length hpr5] at gt
              omega
            obtain ⟨e1, e2, es6, rfl⟩ : ∃ e1 e2 es6, es5 = e1 :: e2 :: es6 := by
              match es5, gt with
              | e1 :: e2 :: es6, _ => exact ⟨e1, e2, es6, rfl⟩
            obtain ⟨a, la, xs, p1, p2, p3, p4⟩ := pile_get hP5
            refine ⟨_, rfl, 1, rfl, PL, _, _, _, rfl, rfl, SqL.of p1, atI_last _ _, a, _, _, _, rfl, rfl, SqT.of p3, rfl, _, rfl, _, _, rfl, rfl, _, rfl, itD (fun gp => ?_) (fun ngp => ?_)⟩
            · have gp : pw < e1.power := by omega
              rw [cl_yes gp] at w1 w2
              dsimp only at w1 w2
              refine ⟨_, fun _ _ h => h, ?_⟩
              refine ⟨_, rfl, _, rfl, _, rfl, c, q2, PL, e1, e2, es6, m, rfl, ha5, hP5, nP, PileC.bnd hC5 c.n hp, ?_, by omega, fun H6 f6 ha6 hP6 => ?_⟩
              · have := pileC_len hC5
                simp only [List.length_cons] at this
                omega
              · exact ⟨es6.length + 1, Nat.lt_succ_self _, ⟨_, ⟨e2.start, (pr c.rk m e2.line e1.line).1, e2.power⟩ :: es6, rfl, rfl, hC5.pour m, F5.trans f6, ha6, hP6, w1, by omega⟩, f6.tup _ _ e5⟩
            · have ngp : ¬ pw < e1.power := by omega
              rw [cl_no ngp] at w1 w2
              dsimp only at w1 w2
              exact ⟨q2, rfl, F5, ha5, by rw [← w1]; exact hP5, by omega, e5⟩
          · have ngt : ¬ 1 < es5.length := by
              rw [List.length_reverse, Paired.length hpr5] at ngt
              omega
            have ecl : cl c.rk m pw es5 = (es5, 0) := by
              match es5, ngt with
              | [], _ => exact cl_nil
              | [e], _ => exact cl_one
              | e1 :: e2 :: es6, h => exact absurd (by simp) h
            rw [ecl] at w1 w2
            dsimp only at w1 w2
            exact ⟨q2, rfl, F5, ha5, by rw [← w1]; exact hP5, by omega, e5⟩
        · rintro σ' H5 ⟨q2, rfl, F5, ha5, ⟨vs5, hv5, hpr5⟩, hq2, e5⟩
          refine ⟨_, rfl, .inl ⟨rfl, _, SqL.of hv5⟩, ?_⟩
          refine ⟨_, rfl, _, rfl, _, rfl, by show 3 ≤ sizeLine; decide, fun T hT => ?_⟩
          have nPT : PL ≠ T := ne_of_none hv5 hT
          have hv6 : upd H5 T (.tup [vI place, .ref t, vI pw]) PL = some (.lst vs5.reverse) := by rw [upd_ne nPT]; exact hv5
          have hCc := cl_C m pw _ es place rfl hC
          have hlen : vs5.length ≤ place := by rw [Paired.length hpr5]; exact pileC_len hCc
          refine ⟨PL, _, _, rfl, rfl, hv6, by rw [List.length_reverse]; exact sz_lt (by omega), ?_⟩
          have fT : Fr [PL] H5 (upd (upd H5 T (.tup [vI place, .ref t, vI pw])) PL (.lst (vs5.reverse ++ [V.ref T]))) := (Fr.new hT).trans (Fr.put1 hv6 rfl)
          have e6 := fT.tup _ _ e5
          refine ⟨_, rfl, _, rfl, t, _, rfl, .inr (SqT.of e6), place, (vL z.1).length, rfl, rfl, ?_⟩
          rw [vL_length]
          refine ⟨c.n - (place + z.1.length), by omega, k, place + z.1.length, q2, _, _, _, rfl, rfl, by omega, d2, (show PileC c.rk (⟨place, z.1, pw⟩ :: (cl c.rk m pw es).1) (place + z.1.length) from ⟨rfl, d1, d4, d3, hCc⟩), F5.trans (fT.mono (by simp)), (ha5.keep0 (Fr.new hT)).putL hv6 nP, ⟨V.ref T :: vs5, by rw [upd_same, List.reverse_cons], .cons ⟨T, t, rfl, by rw [upd_ne nPT.symm, upd_same], e6⟩ (pair_keep fT hpr5)⟩, g1, by omega⟩
    · have hpl : place = c.n := by omega
      subst hpl
      rw [om_stop (Nat.lt_irrefl _)] at g1 g2
      refine ⟨InvOf K c H m PL (n + (ordF c.rk c.n f m).2) [some (.ref c.p), some (vI f), some (.str (manS m)), some (vI c.n), some (.ref PL), some (vI c.n), z1, z2], ⟨_, q1, es, rfl, rfl, hC, F2, ha2, hP2, g1, g2⟩, ?_⟩
      rintro mm σ H5 ⟨q2, es5, rfl, rfl, hC5, F5, ha5, hP5, w1, w2⟩
      obtain ⟨vs5, hv5, hpr5⟩ := id hP5
      refine ⟨_, rfl, PL, _, rfl, .inl (SqL.of hv5), _, _, rfl, rfl, _, rfl, itD (fun gt => ?_) (fun ngt => ?_)⟩
      · have gt : 1 < es5.length := by
          rw [List.length_reverse, Paired.length hpr5] at gt
          omega
        obtain ⟨e1, e2, es6, rfl⟩ : ∃ e1 e2 es6, es5 = e1 :: e2 :: es6 := by
          match es5, gt with
          | e1 :: e2 :: es6, _ => exact ⟨e1, e2, es6, rfl⟩
        rw [fin_two] at w1 w2
        dsimp only at w1 w2
        refine ⟨_, fun _ _ h => h, ?_⟩
        refine ⟨_, rfl, _, rfl, _, rfl, c, q2, PL, e1, e2, es6, m, rfl, ha5, hP5, nP, PileC.bnd hC5 c.n (Nat.le_refl _), ?_, by omega, fun H6 f6 ha6 hP6 => ?_⟩
        · have := pileC_len hC5
          simp only [List.length_cons] at this
          omega
        · exact ⟨es6.length + 1, Nat.lt_succ_self _, _, ⟨e2.start, (pr c.rk m e2.line e1.line).1, e2.power⟩ :: es6, rfl, rfl, hC5.pour m, F5.trans f6, ha6, hP6, w1, by omega⟩
      · have ngt : ¬ 1 < es5.length := by
          rw [List.length_reverse, Paired.length hpr5] at ngt
          omega
        refine ⟨_, rfl, Nat.zero_le _, fun b hb => ?_⟩
        have fb : Fr [] H5 (upd H5 b (.lst [])) := Fr.new hb
        have out : ∀ {t H6}, Fr [c.l, PL] H H6 → AskAt K c q2 H6 → (fin c.rk m es5).2 = 0 → H6 t = some (.tup (vL (arr c.rk c.n))) → Q (.ref t) H6 := fun {t H6} F6 ha6 h0 h6 => by
          refine q t H6 (F6.drop fun x hx => ?_) (by rw [← w2, h0]; exact ha6) h6
          rcases List.mem_cons.mp hx with e | e
          · exact .inl (by rw [e]; exact List.mem_cons_self)
          · exact .inr (by rw [List.mem_singleton.mp e]; exact hPL0)
        have F6 := F5.trans (fb.mono (ys := [c.l, PL]) (fun b hb => by cases hb))
        refine eq_pile (hP5.keep fb (by simp)) upd_same ?_
        refine ⟨_, rfl, itD (fun e => ?_) (fun ne => ?_)⟩
        · subst e
          rw [fin_nil] at w1 w2 out
          refine ⟨Nat.zero_le _, fun t ht => ?_⟩
          refine out (F6.trans (Fr.new ht)) ((ha5.keep0 fb).keep0 (Fr.new ht)) rfl ?_
          rw [upd_same, ← w1]; rfl
        · obtain ⟨e, rfl⟩ : ∃ e, es5 = [e] := by
            match es5, ngt, ne with
            | [], _, h => exact absurd rfl h
            | [e], _, _ => exact ⟨e, rfl⟩
            | e1 :: e2 :: es6, h, _ => exact absurd (by simp) h
          rw [fin_one] at w1 w2 out
          obtain ⟨a, la, xs, p1, p2, p3, p4⟩ := pile_get (hP5.keep fb (by simp))
          have hxs : xs = [] := List.length_eq_zero_iff.mp p2
          subst hxs
          refine ⟨_, rfl, PL, _, _, _, rfl, rfl, SqL.of p1, rfl, a, _, _, _, rfl, rfl, SqT.of p3, rfl, ?_⟩
          exact out F6 (ha5.keep0 fb) rfl (by rw [← w1]; exact p4)
end
end NR

set_option maxRecDepth 100000
set_option maxHeartbeats 4000000
/-! Trees of numbers: up, down. -/
namespace NR
open PySem PySem.Spec PyProof.Rows L2 NM
def spAhead (K : PySem.W.Frag) : Sp := fun vs H Q _ => ∃ (c : AC) (q x y : Nat), vs = [.ref c.p, vI x, vI y] ∧ AskAt K c q H ∧ x < c.n ∧ y < c.n ∧ q < 90000 ∧ ∀ H', Fr [c.l] H H' → AskAt K c (q + 1) H' → Q (.bl (sa c.rk x y)) H'
/-- a tree put right from a place on -/
def spTree (K : PySem.W.Frag) (g : (Nat → Nat) → Nat → List Nat → Nat → List Nat × Nat) : Sp := fun vs H Q _ => ∃ (c : AC) (q : Nat) (L : Addr) (t : List Nat) (p : Nat), vs = [.ref c.p, .ref L, vI p] ∧ AskAt K c q H ∧ H L = some (.lst (vL t)) ∧ L ≠ c.l ∧ (∀ y ∈ t, y < c.n) ∧ p < t.length ∧ t.length ≤ 1000 ∧
  q + (g c.rk (gv t p) t p).2 < 90000 ∧ ∀ H', Fr [c.l, L] H H' → AskAt K c (q + (g c.rk (gv t p) t p).2) H' → H' L = some (.lst (vL (g c.rk (gv t p) t p).1)) → Q .non H'
theorem vL_set (t : List Nat) (p x : Nat) : (vL t).set p (vI x) = vL (t.set p x) := by unfold vL; rw [List.map_set]
theorem ixN_nat {n p : Nat} (h : p < n) : ixN n (p : Int) = some p := by
  unfold ixN
  rw [if_pos (by omega)]
  simp [h]
theorem set_lt {n : Nat} {t : List Nat} {p x : Nat} (h : ∀ y ∈ t, y < n) (hx : x < n) : ∀ y ∈ t.set p x, y < n := fun y hy => by
  rcases List.mem_or_eq_of_mem_set hy with m | e
  · exact h y m
  · rw [e]; exact hx
theorem gv_lt {n : Nat} {t : List Nat} {p : Nat} (h : ∀ y ∈ t, y < n) (hp : p < t.length) : gv t p < n := getD_lt h hp
theorem vL_gv {t : List Nat} {p : Nat} (h : p < t.length) : atI (vL t) (p : Int) = some (vI (gv t p)) := vL_at h
section
variable {P : Program} {w : World} {K : PySem.W.Frag} {mg : Str → Option Value} {base : Heap}
theorem sc_stands_ahead : FnScope ["asker", "x", "y"] ["asker", "x", "y"] (defScope s_stands_ahead) := ⟨rfl, rfl, rfl, by decide +kernel, rfl, by decide +kernel, by decide +kernel⟩
theorem ok_stands_ahead (T : Hd K mg) : DOk P w K mg base 6 "stands_ahead" ["asker", "x", "y"] (spAhead K) := by
  refine mkD T 35 28 rfl rfl sc_stands_ahead (fun _ _ _ _ _ _ us hl => match us, hl with | [_, _, _], _ => rfl) (fun vs H Q E h => ?_) (fun cdv A outer s H vs Q E hr h => ?_)
  · obtain ⟨c, q, x, y, rfl, _⟩ := h; rfl
  · obtain ⟨c, n, x, y, rfl, ha, hx, hy, hn, q⟩ := h
    refine ⟨_, (pss_cons (ps_if (pt_cmpR op_lt (pv 1) (pv 2) (nomark _))
        (pss_one (ps_ret (pe_not (pe_md (ok_Asker_less T) (hr.mono (by decide)) (pv 0) (pa_cons (pv 2) (pa_cons (pv 1) pa_nil))))))
        pss_nil)
      (pss_one (ps_ret (pe_md (ok_Asker_less T) (hr.mono (by decide)) (pv 0) (pa_cons (pv 1) (pa_cons (pv 2) pa_nil)))))), ?_⟩
    refine ⟨_, rfl, _, rfl, _, _, rfl, rfl, _, rfl, itD (fun lt => ?_) (fun nlt => ?_)⟩
    · have lt : x < y := by omega
      refine ⟨_, rfl, c.p, c.dx, _, rfl, ha.hp, rfl, _, rfl, _, rfl, c, n, y, x, rfl, ha, hy, hx, hn, fun H' f ha' => ?_⟩
      refine ⟨_, rfl, ?_⟩
      have := q H' f ha'
      unfold sa at this
      rw [if_pos lt] at this
      exact this
    · have nlt : ¬ x < y := by omega
      refine ⟨_, rfl, c.p, c.dx, _, rfl, ha.hp, rfl, _, rfl, _, rfl, c, n, x, y, rfl, ha, hx, hy, hn, fun H' f ha' => ?_⟩
      have := q H' f ha'
      unfold sa at this
      rw [if_neg nlt] at this
      exact this
theorem sc_put_up : FnScope ["asker", "tree", "place", "x"] ["asker", "tree", "place"] (defScope s_put_up) := ⟨rfl, rfl, rfl, by decide +kernel, rfl, by decide +kernel, by decide +kernel⟩
theorem ok_put_up (T : Hd K mg) : DOk P w K mg base 7 "put_up" ["asker", "tree", "place"] (spTree K up) := by
  refine mkD T 36 29 rfl rfl sc_put_up (fun _ _ _ _ _ _ us hl => match us, hl with | [_, _, _], _ => rfl) (fun vs H Q E h => ?_) (fun cdv A outer s H vs Q E hr h => ?_)
  · obtain ⟨c, q, L, t, p, rfl, _⟩ := h; rfl
  · obtain ⟨c, n, L, t, p, rfl, ha, hL, nL, ht, hp, hlen, hn, q⟩ := h
    refine ⟨_, (pss_cons (ps_set (i := 3) sc_put_up.nd rfl (Or.inl rfl) (pe_ix ix_list (pv 1) (pv 2) (fun _ _ => rfl)))
      (Evl.pss_cut (ps_while PassesOwn.never (PW.pt (pw_and (pt_cmpR op_gt (pv 2) pe_int (nomark _)) (pw_and1 (pt_val (pe_cd (ok_stands_ahead T) (hr.mono (by decide)) (pa_cons (pv 0) (pa_cons (pv 3) (pa_cons (pe_ix ix_list (pv 1) (pe_op op_fdivNN (pe_op op_subN (pv 2) pe_int) pe_int) (fun _ _ => rfl)) pa_nil))))))))
        (pss_cons (ps_asg (pe_ix ix_list (pv 1) (pe_op op_fdivNN (pe_op op_subN (pv 2) pe_int) pe_int) (fun _ _ => rfl)) (pg_sub (pv 1) (pv 2) set_list))
        (pss_one (ps_set (i := 2) sc_put_up.nd rfl (Or.inl rfl) (pe_op op_fdivNN (pe_op op_subN (pv 2) pe_int) pe_int)))))
      (pss_one (ps_asg (pv 3) (pg_sub (pv 1) (pv 2) set_list))))), ?_⟩
    refine ⟨_, rfl, _, rfl, L, _, _, _, rfl, rfl, SqL.of hL, vL_gv hp, ?_⟩
    have hx := gv_lt ht hp
    generalize hxe : gv t p = x at *
    refine ⟨fun σ' H' => ∃ (p1 q1 : Nat) (t1 : List Nat), σ' = [some (.ref c.p), some (.ref L), some (vI p1), some (vI x)] ∧ p1 < t1.length ∧ t1.length = t.length ∧ Fr [c.l, L] H H' ∧ AskAt K c q1 H' ∧ H' L = some (.lst (vL t1)) ∧ t1.set p1 x = (up c.rk x t p).1 ∧ q1 = n + (up c.rk x t p).2, ?_, ?_⟩
    · refine ⟨fun m σ' H' => ∃ (p1 q1 : Nat) (t1 : List Nat), m = p1 ∧ σ' = [some (.ref c.p), some (.ref L), some (vI p1), some (vI x)] ∧ p1 < t1.length ∧ t1.length = t.length ∧ (∀ y ∈ t1, y < c.n) ∧ Fr [c.l, L] H H' ∧ AskAt K c q1 H' ∧ H' L = some (.lst (vL t1)) ∧ (up c.rk x t1 p1).1 = (up c.rk x t p).1 ∧ q1 + (up c.rk x t1 p1).2 = n + (up c.rk x t p).2, ⟨_, p, n, t, rfl, rfl, hp, rfl, ht, Fr.refl _ _, ha, hL, rfl, rfl⟩, ?_⟩
      rintro m σ H1 ⟨p1, q1, t1, rfl, rfl, hp1, hl1, ht1, f1, ha1, hL1, g1, g2⟩
      refine ⟨_, rfl, _, _, rfl, rfl, _, rfl, itD (fun gt => ?_) (fun ngt => ?_)⟩
      · have gt : 0 < m := by omega
        have hq : (m - 1) / 2 < t1.length := by omega
        refine ⟨_, rfl, _, rfl, _, rfl, _, rfl, m, 1, rfl, rfl, by omega, m - 1, 2, rfl, rfl, by decide, L, _, _, _, rfl, rfl, SqL.of hL1, vL_gv hq, ?_⟩
        have pos : 0 < (up c.rk x t1 m).2 := by
          by_cases z : sa c.rk x (gv t1 ((m - 1) / 2)) = true
          · rw [up_yes gt z]; exact Nat.succ_pos _
          · rw [up_no gt z]; exact Nat.succ_pos _
        refine ⟨c, q1, x, _, rfl, ha1, hx, gv_lt ht1 hq, by omega, fun H2 f2 ha2 => ⟨_, rfl, itB (fun yes => ?_) (fun no => ?_)⟩⟩
        · rw [up_yes gt yes] at g1 g2
          dsimp only at g1 g2
          have hL2 := f2.keep L _ (by simpa using nL) hL1
          refine ⟨_, fun _ _ h => h, _, rfl, _, rfl, m, 1, rfl, rfl, by omega, m - 1, 2, rfl, rfl, by decide, L, _, _, _, rfl, rfl, SqL.of hL2, vL_gv hq, ?_⟩
          refine ⟨_, rfl, _, rfl, L, _, _, _, rfl, rfl, hL2, ixN_nat (by rw [vL_length]; exact hp1), ?_⟩
          rw [vL_set]
          refine ⟨_, rfl, m, 1, rfl, rfl, by omega, m - 1, 2, rfl, rfl, by decide, ?_⟩
          exact ⟨(m - 1) / 2, by omega, (m - 1) / 2, q1 + 1, _, rfl, rfl, by rw [List.length_set]; exact hq, by rw [List.length_set]; exact hl1, set_lt ht1 (gv_lt ht1 hq), (f1.trans (f2.mono (by simp))).trans (Fr.put (by simp) hL2 rfl), ha2.putL hL2 nL, upd_same, g1, by omega⟩
        · have no' : ¬ sa c.rk x (gv t1 ((m - 1) / 2)) = true := by rw [no]; exact Bool.false_ne_true
          rw [up_no gt no'] at g1 g2
          dsimp only at g1 g2
          exact ⟨m, q1 + 1, t1, rfl, hp1, hl1, f1.trans (f2.mono (by simp)), ha2, f2.keep L _ (by simpa using nL) hL1, g1, g2⟩
      · have ngt : ¬ 0 < m := by omega
        rw [up_end ngt] at g1 g2
        exact ⟨m, q1, t1, rfl, hp1, hl1, f1, ha1, hL1, g1, g2⟩
    · rintro σ' H1 ⟨p1, q1, t1, rfl, hp1, hl1, f1, ha1, hL1, g1, rfl⟩
      refine ⟨_, rfl, _, rfl, _, rfl, L, _, _, _, rfl, rfl, hL1, ixN_nat (by rw [vL_length]; exact hp1), ?_⟩
      rw [vL_set]
      exact q _ (f1.trans (Fr.put (by simp) hL1 rfl)) (ha1.putL hL1 nL) (by rw [upd_same, g1])
theorem sc_put_down : FnScope ["asker", "tree", "place", "x", "under"] ["asker", "tree", "place"] (defScope s_put_down) := ⟨rfl, rfl, rfl, by decide +kernel, rfl, by decide +kernel, by decide +kernel⟩
theorem ok_put_down (T : Hd K mg) : DOk P w K mg base 7 "put_down" ["asker", "tree", "place"] (spTree K dn) := by
  refine mkD T 37 30 rfl rfl sc_put_down (fun _ _ _ _ _ _ us hl => match us, hl with | [_, _, _], _ => rfl) (fun vs H Q E h => ?_) (fun cdv A outer s H vs Q E hr h => ?_)
  · obtain ⟨c, q, L, t, p, rfl, _⟩ := h; rfl
  · obtain ⟨c, n, L, t, p, rfl, ha, hL, nL, ht, hp, hlen, hn, q⟩ := h
    refine ⟨_, (pss_cons (ps_set (i := 3) sc_put_down.nd rfl (Or.inl rfl) (pe_ix ix_list (pv 1) (pv 2) (fun _ _ => rfl)))
      (pss_cons (ps_set (i := 4) sc_put_down.nd rfl (Or.inl rfl) (pe_op op_addN (pe_op op_mulN pe_int (pv 2)) pe_int))
      (Evl.pss_cut (ps_while PassesOwn.never (pt_cmpR op_lt (pv 4) (pe_callB call_len_seq (by rfl) T.f_len (by decide +kernel) (pa_cons (pv 1) pa_nil)) (nomark _))
        (Evl.pss_cut (ps_if (PW.pt (pw_and (pt_cmpR op_lt (pe_op op_addN (pv 4) pe_int) (pe_callB call_len_seq (by rfl) T.f_len (by decide +kernel) (pa_cons (pv 1) pa_nil)) (nomark _)) (pw_and1 (pt_val (pe_cd (ok_stands_ahead T) (hr.mono (by decide)) (pa_cons (pv 0) (pa_cons (pe_ix ix_list (pv 1) (pe_op op_addN (pv 4) pe_int) (fun _ _ => rfl)) (pa_cons (pe_ix ix_list (pv 1) (pv 4) (fun _ _ => rfl)) pa_nil))))))))
          (pss_one (ps_set (i := 4) sc_put_down.nd rfl (Or.inl rfl) (pe_op op_addN (pv 4) pe_int)))
          pss_nil)
        (pss_cons (ps_if (pt_not (pt_val (pe_cd (ok_stands_ahead T) (hr.mono (by decide)) (pa_cons (pv 0) (pa_cons (pe_ix ix_list (pv 1) (pv 4) (fun _ _ => rfl)) (pa_cons (pv 3) pa_nil))))))
          (pss_one ps_break)
          pss_nil)
        (pss_cons (ps_asg (pe_ix ix_list (pv 1) (pv 4) (fun _ _ => rfl)) (pg_sub (pv 1) (pv 2) set_list))
        (pss_cons (ps_set (i := 2) sc_put_down.nd rfl (Or.inl rfl) (pv 4))
        (pss_one (ps_set (i := 4) sc_put_down.nd rfl (Or.inl rfl) (pe_op op_addN (pe_op op_mulN pe_int (pv 2)) pe_int))))))))
      (pss_one (ps_asg (pv 3) (pg_sub (pv 1) (pv 2) set_list)))))), ?_⟩
    refine ⟨_, rfl, _, rfl, L, _, _, _, rfl, rfl, SqL.of hL, vL_gv hp, ?_⟩
    have hx := gv_lt ht hp
    generalize hxe : gv t p = x at *
    refine ⟨_, rfl, 2, p, rfl, rfl, by decide, _, _, rfl, rfl, ?_⟩
    refine ⟨fun σ' H' => ∃ (p1 u1 q1 : Nat) (t1 : List Nat), σ' = [some (.ref c.p), some (.ref L), some (vI p1), some (vI x), some (vI u1)] ∧ p1 < t1.length ∧ t1.length = t.length ∧ Fr [c.l, L] H H' ∧ AskAt K c q1 H' ∧ H' L = some (.lst (vL t1)) ∧ t1.set p1 x = (dn c.rk x t p).1 ∧ q1 = n + (dn c.rk x t p).2, ?_, ?_⟩
    · refine ⟨fun m σ' H' => ∃ (p1 q1 : Nat) (t1 : List Nat), m = t.length - p1 ∧ σ' = [some (.ref c.p), some (.ref L), some (vI p1), some (vI x), some (vI (2 * p1 + 1))] ∧ p1 < t1.length ∧ t1.length = t.length ∧ (∀ y ∈ t1, y < c.n) ∧ Fr [c.l, L] H H' ∧ AskAt K c q1 H' ∧ H' L = some (.lst (vL t1)) ∧ (dn c.rk x t1 p1).1 = (dn c.rk x t p).1 ∧ q1 + (dn c.rk x t1 p1).2 = n + (dn c.rk x t p).2, ⟨_, p, n, t, rfl, rfl, hp, rfl, ht, Fr.refl _ _, ha, hL, rfl, rfl⟩, ?_⟩
      rintro m σ H1 ⟨p1, q1, t1, rfl, rfl, hp1, hl1, ht1, f1, ha1, hL1, g1, g2⟩
      refine ⟨_, rfl, _, rfl, L, _, rfl, .inl (SqL.of hL1), _, _, rfl, rfl, _, rfl, itD (fun gt => ?_) (fun ngt => ?_)⟩
      · have gt : 2 * p1 + 1 < t1.length := by rw [vL_length] at gt; omega
        obtain ⟨k1, k2, k3, k4⟩ := kid_is c.rk t1 (2 * p1 + 1) gt
        have pos : (kid c.rk t1 (2 * p1 + 1)).2 + 1 ≤ (dn c.rk x t1 p1).2 := by
          by_cases z : sa c.rk (gv t1 (kid c.rk t1 (2 * p1 + 1)).1) x = true
          · rw [dn_yes gt z]; dsimp only; omega
          · rw [dn_no gt z]; dsimp only; omega
        refine ⟨_, fun _ _ h => h, ?_⟩
        refine ⟨fun σ' H' => ∃ q2 : Nat, σ' = [some (.ref c.p), some (.ref L), some (vI p1), some (vI x), some (vI (kid c.rk t1 (2 * p1 + 1)).1)] ∧ Fr [c.l, L] H H' ∧ AskAt K c q2 H' ∧ H' L = some (.lst (vL t1)) ∧ q2 = q1 + (kid c.rk t1 (2 * p1 + 1)).2, ?_, ?_⟩
        · refine ⟨_, rfl, 2 * p1 + 1, 1, rfl, rfl, _, rfl, L, _, rfl, .inl (SqL.of hL1), _, _, rfl, rfl, _, rfl, itD (fun g => ?_) (fun ng => ?_)⟩
          · have g : 2 * p1 + 1 + 1 < t1.length := by rw [vL_length] at g; omega
            have ek : kid c.rk t1 (2 * p1 + 1) = (if sa c.rk (gv t1 (2 * p1 + 1 + 1)) (gv t1 (2 * p1 + 1)) = true then 2 * p1 + 1 + 1 else 2 * p1 + 1, 1) := by unfold kid; rw [if_pos g]
            have e2 : (kid c.rk t1 (2 * p1 + 1)).2 = 1 := by rw [ek]
            refine ⟨_, rfl, _, rfl, _, rfl, 2 * p1 + 1, 1, rfl, rfl, L, _, _, _, rfl, rfl, SqL.of hL1, vL_gv g, ?_⟩
            refine ⟨_, rfl, _, rfl, L, _, _, _, rfl, rfl, SqL.of hL1, vL_gv gt, ?_⟩
            refine ⟨c, q1, _, _, rfl, ha1, gv_lt ht1 g, gv_lt ht1 gt, by omega, fun H2 f2 ha2 => ⟨_, rfl, itB (fun yes => ?_) (fun no => ?_)⟩⟩
            · refine ⟨_, rfl, 2 * p1 + 1, 1, rfl, rfl, ?_⟩
              rw [ek, if_pos yes]
              exact ⟨_, rfl, f1.trans (f2.mono (by simp)), ha2, f2.keep L _ (by simpa using nL) hL1, rfl⟩
            · rw [ek, if_neg (by rw [no]; exact Bool.false_ne_true)]
              exact ⟨_, rfl, f1.trans (f2.mono (by simp)), ha2, f2.keep L _ (by simpa using nL) hL1, rfl⟩
          · have ng : ¬ 2 * p1 + 1 + 1 < t1.length := by rw [vL_length] at ng; omega
            have ek : kid c.rk t1 (2 * p1 + 1) = (2 * p1 + 1, 0) := by unfold kid; rw [if_neg ng]
            rw [ek]
            exact ⟨_, rfl, f1, ha1, hL1, rfl⟩
        · generalize hu : (kid c.rk t1 (2 * p1 + 1)).1 = u at *
          generalize hv : (kid c.rk t1 (2 * p1 + 1)).2 = v at *
          rintro σ' H2 ⟨q2, rfl, f2, ha2, hL2, rfl⟩
          refine ⟨_, rfl, _, rfl, _, rfl, L, _, _, _, rfl, rfl, SqL.of hL2, vL_gv k2, _, rfl, ?_⟩
          refine ⟨c, _, _, x, rfl, ha2, gv_lt ht1 k2, hx, by omega, fun H3 f3 ha3 => ⟨_, rfl, ?_⟩⟩
          have hL3 := f3.keep L _ (by simpa using nL) hL2
          have f3' := f2.trans (f3.mono (ys := [c.l, L]) (by simp))
          cases hs : sa c.rk (gv t1 u) x with
          | true =>
            rw [dn_yes gt (by rw [hu]; exact hs), hu, hv] at g1 g2
            dsimp only at g1 g2
            refine iteF ?_
            refine ⟨_, rfl, _, rfl, L, _, _, _, rfl, rfl, SqL.of hL3, vL_gv k2, ?_⟩
            refine ⟨_, rfl, _, rfl, L, _, _, _, rfl, rfl, hL3, ixN_nat (by rw [vL_length]; exact hp1), ?_⟩
            rw [vL_set]
            refine ⟨_, rfl, _, rfl, 2, u, rfl, rfl, by decide, _, _, rfl, rfl, ?_⟩
            exact ⟨t.length - u, by omega, u, q1 + v + 1, _, rfl, rfl, by rw [List.length_set]; exact k2, by rw [List.length_set]; exact hl1, set_lt ht1 (gv_lt ht1 k2), f3'.trans (Fr.put (by simp) hL3 rfl), ha3.putL hL3 nL, upd_same, g1, by omega⟩
          | false =>
            rw [dn_no gt (by rw [hu, hs]; exact Bool.false_ne_true), hv] at g1 g2
            dsimp only at g1 g2
            refine iteT ?_
            exact ⟨p1, u, _, t1, rfl, hp1, hl1, f3', ha3, hL3, g1, by omega⟩
      · have ngt : ¬ 2 * p1 + 1 < t1.length := by rw [vL_length] at ngt; omega
        rw [dn_end ngt] at g1 g2
        exact ⟨p1, _, q1, t1, rfl, hp1, hl1, f1, ha1, hL1, g1, g2⟩
    · rintro σ' H1 ⟨p1, u1, q1, t1, rfl, hp1, hl1, f1, ha1, hL1, g1, rfl⟩
      refine ⟨_, rfl, _, rfl, _, rfl, L, _, _, _, rfl, rfl, hL1, ixN_nat (by rw [vL_length]; exact hp1), ?_⟩
      rw [vL_set]
      exact q _ (f1.trans (Fr.put (by simp) hL1 rfl)) (ha1.putL hL1 nL) (by rw [upd_same, g1])
end
end NR

set_option maxRecDepth 100000
set_option maxHeartbeats 4000000
/-! Heaps. -/
namespace NR
open PySem PySem.Spec PyProof.Rows L2 NM
structure HeapAt (K : PySem.W.Frag) (c : AC) (S TL : Addr) (t : List Nat) (H : Hp) : Prop where
  hp : ∃ dx, H S = some (.ins (He.ga K "Heap") dx [("asker", .ref c.p), ("tree", .ref TL)])
  hl : H TL = some (.lst (vL t))
  nl : TL ≠ c.l
theorem HeapAt.keep {K : PySem.W.Frag} {c : AC} {S TL : Addr} {t : List Nat} {H H' : Hp} {xs : List Addr} (h : HeapAt K c S TL t H) (f : Fr xs H H') (h1 : S ∉ xs) (h2 : TL ∉ xs) : HeapAt K c S TL t H' := by
  obtain ⟨dx, e⟩ := h.hp
  exact ⟨⟨dx, f.keep _ _ h1 e⟩, f.keep _ _ h2 h.hl, h.nl⟩
theorem HeapAt.keep0 {K : PySem.W.Frag} {c : AC} {S TL : Addr} {t : List Nat} {H H' : Hp} (h : HeapAt K c S TL t H) (f : Fr [] H H') : HeapAt K c S TL t H' := h.keep f (by simp) (by simp)
/-- the book changed, the heap as it was -/
theorem HeapAt.keepA {K : PySem.W.Frag} {c : AC} {S TL : Addr} {t : List Nat} {H H' : Hp} {q : Nat} (h : HeapAt K c S TL t H) (ha : AskAt K c q H) (f : Fr [c.l] H H') : HeapAt K c S TL t H' := by
  obtain ⟨dx, e⟩ := h.hp
  obtain ⟨bk, e1, _⟩ := ha.hl
  exact h.keep f (by simpa using ne_of e e1 (by intro z; cases z)) (by simpa using h.nl)
theorem AskAt.neI {K : PySem.W.Frag} {c : AC} {q : Nat} {H : Hp} (h : AskAt K c q H) {S C dx : Addr} {fs : List (Str × V)} (e : H S = some (.ins C dx fs)) (n : fs.length ≠ 5) : c.p ≠ S := by
  intro z
  have h1 := h.hp
  rw [z, e] at h1
  injection h1 with h1
  injection h1 with _ _ h1
  exact n (congrArg List.length h1)
theorem AskAt.neB {K : PySem.W.Frag} {c : AC} {q : Nat} {H : Hp} (h : AskAt K c q H) {S C dx : Addr} {fs : List (Str × V)} (e : H S = some (.ins C dx fs)) : S ≠ c.l := by
  obtain ⟨bk, z, _⟩ := h.hl
  exact ne_of e z (by intro z; cases z)
def spHeapInit (K : PySem.W.Frag) : Sp := fun vs H Q _ => ∃ (p dx : Addr) (c : AC) (q : Nat), vs = [.ref p, .ref c.p] ∧ H p = some (.ins (He.ga K "Heap") dx []) ∧ AskAt K c q H ∧ ∀ TL H', H TL = none → Fr [p] H H' → HeapAt K c p TL [] H' → Q .non H'
def spHeapPut (K : PySem.W.Frag) : Sp := fun vs H Q _ => ∃ (c : AC) (q : Nat) (S TL : Addr) (t : List Nat) (x : Nat), vs = [.ref S, vI x] ∧ AskAt K c q H ∧ HeapAt K c S TL t H ∧ (∀ y ∈ t, y < c.n) ∧ x < c.n ∧ x ∉ t ∧ t.length < 1000 ∧ q + (up c.rk x (t ++ [x]) t.length).2 < 90000 ∧
  ∀ TL' H', H TL' = none → Fr [c.l, S] H H' → AskAt K c (q + (up c.rk x (t ++ [x]) t.length).2) H' → HeapAt K c S TL' (up c.rk x (t ++ [x]) t.length).1 H' → Q .non H'
def spHeapPutAll (K : PySem.W.Frag) : Sp := fun vs H Q _ => ∃ (c : AC) (q : Nat) (S TL a : Addr) (l : List Nat), vs = [.ref S, .ref a] ∧ AskAt K c q H ∧ HeapAt K c S TL [] H ∧ H a = some (.tup (vL l)) ∧ l.Nodup ∧ (∀ y ∈ l, y < c.n) ∧ l.length ≤ 1000 ∧ q + (bd c.rk l (l.length / 2)).2 < 90000 ∧
  ∀ TL' H', H TL' = none → Fr [c.l, S] H H' → AskAt K c (q + (bd c.rk l (l.length / 2)).2) H' → HeapAt K c S TL' (bd c.rk l (l.length / 2)).1 H' → Q .non H'
def spHeapFirst (K : PySem.W.Frag) : Sp := fun vs H Q _ => ∃ (c : AC) (S TL : Addr) (t : List Nat), vs = [.ref S] ∧ HeapAt K c S TL t H ∧ t ≠ [] ∧ ∀ H', Fr [] H H' → Q (vI (gv t 0)) H'
def spHeapTake (K : PySem.W.Frag) : Sp := fun vs H Q _ => ∃ (c : AC) (q : Nat) (S TL : Addr) (t : List Nat), vs = [.ref S] ∧ AskAt K c q H ∧ HeapAt K c S TL t H ∧ t ≠ [] ∧ (∀ y ∈ t, y < c.n) ∧ t.length ≤ 1000 ∧ q + (tk c.rk t).2 < 90000 ∧
  ∀ TL' H', H TL' = none → Fr [c.l, S] H H' → AskAt K c (q + (tk c.rk t).2) H' → HeapAt K c S TL' (tk c.rk t).1 H' → Q (vI (gv t 0)) H'
def spHeapHeld (K : PySem.W.Frag) : Sp := fun vs H Q _ => ∃ (c : AC) (S TL : Addr) (t : List Nat), vs = [.ref S] ∧ HeapAt K c S TL t H ∧ t.length < 64 ∧ ∀ (l : List Nat) (a : Addr) H', l.Perm t → l.Pairwise (· ≤ ·) → Fr [] H H' → H' a = some (.tup (vL l)) → Q (.ref a) H'
theorem vL_nats (l : List Nat) : ∀ ns : List Int, ns.Perm (l.map fun n : Nat => (n : Int)) → ns.Pairwise (· ≤ ·) → ∃ m : List Nat, ns = m.map (fun n : Nat => (n : Int)) ∧ m.Perm l ∧ m.Pairwise (· ≤ ·) := by
  intro ns hp hw
  have e : ns = (ns.map Int.toNat).map (fun n : Nat => (n : Int)) := by
    rw [List.map_map]
    conv => lhs; rw [← List.map_id ns]
    refine List.map_congr_left fun x hx => ?_
    obtain ⟨n, _, rfl⟩ := List.mem_map.mp (hp.subset hx)
    rfl
  refine ⟨ns.map Int.toNat, e, ?_, ?_⟩
  · have := hp.map Int.toNat
    rw [List.map_map] at this
    have e2 : l.map (Int.toNat ∘ fun n : Nat => (n : Int)) = l := by
      conv => rhs; rw [← List.map_id l]
      rfl
    rw [e2] at this
    exact this
  · rw [List.pairwise_map]
    exact hw.imp fun h => by omega
theorem dn_perm (r : Nat → Nat) (x : Nat) : ∀ (d : Nat) (t : List Nat) (p : Nat), t.length - p = d → p < t.length → (dn r x t p).1.Perm (t.set p x) := by
  intro d
  induction d using Nat.strongRecOn with
  | ind d ih =>
    intro t p hd hp
    by_cases q : 2 * p + 1 < t.length
    · obtain ⟨k1, k2, k3, k4⟩ := kid_is r t (2 * p + 1) q
      by_cases z : sa r (gv t (kid r t (2 * p + 1)).1) x = true
      · rw [dn_yes q z]
        have := ih (t.length - (kid r t (2 * p + 1)).1) (by omega) (t.set p (gv t (kid r t (2 * p + 1)).1)) (kid r t (2 * p + 1)).1 (by rw [List.length_set]) (by rw [List.length_set]; exact k2)
        exact this.trans (swap_perm hp k2 (by omega))
      · rw [dn_no q z]
    · rw [dn_end q]
theorem gv_end (t : List Nat) (x : Nat) : gv (t ++ [x]) t.length = x := by
  unfold gv
  rw [List.getD_eq_getElem?_getD, List.getElem?_append_right (Nat.le_refl _), Nat.sub_self]
  rfl
theorem cut_last (t : List Nat) : cutV (vL t) none (some (-1)) = vL t.dropLast := by
  unfold cutV
  rw [HT.sIx_none, List.drop_zero, Nat.sub_zero, vL_length]
  show (vL t).take ((-1 + (t.length : Int)).toNat) = _
  rw [vL_take, List.dropLast_eq_take]
  congr 2
  omega
theorem atI_end {t : List Nat} (h : t ≠ []) : atI (vL t) (-1) = some (vI (gv t (t.length - 1))) := by
  have h1 := List.dropLast_concat_getLast h
  have h2 : t.getLast h = gv t (t.length - 1) := by
    unfold gv
    rw [getD_get (by have := List.length_pos_iff.mpr h; omega), List.getLast_eq_getElem]
  rw [h2] at h1
  have h3 : vL t = vL t.dropLast ++ [vI (gv t (t.length - 1))] := by
    conv => lhs; rw [← h1, ← vL_append]
    rfl
  rw [h3]
  exact atI_last _ _
section
variable {P : Program} {w : World} {K : PySem.W.Frag} {mg : Str → Option Value} {base : Heap}
theorem sc_Heap_init : FnScope ["self", "asker"] ["self", "asker"] (defScope s_Heap_init) := ⟨rfl, rfl, rfl, by decide +kernel, rfl, by decide +kernel, by decide +kernel⟩
theorem ok_Heap_init (T : Hd K mg) : KOk P w K mg base 1 (He.ga K "Heap") "Heap" ["self", "asker"] (spHeapInit K) := by
  refine mkK T 38 62 99 rfl rfl rfl sc_Heap_init (fun _ _ _ _ _ _ us hl => match us, hl with | [_, _], _ => rfl) (fun vs H Q E h => ?_) (fun cdv A outer s H vs Q E hr h => ?_)
  · obtain ⟨p, dx, c, q, rfl, _⟩ := h; rfl
  · obtain ⟨p, dx, c, n, rfl, hp, ha, q⟩ := h
    refine ⟨_, (pss_cons (ps_fld (pv 0) (pv 1) rfl)
      (pss_one (ps_fld (pv 0) (pe_lst pa_nil) rfl))), ?_⟩
    refine ⟨_, rfl, _, rfl, p, _, dx, _, rfl, hp, T.c_Heap, T.n_Heap_asker, by show 0 < 1000; decide, ?_⟩
    refine ⟨Nat.zero_le _, fun l hl => ?_⟩
    have npl : p ≠ l := ne_of_none upd_same hl
    refine ⟨_, rfl, p, _, dx, _, rfl, by rw [upd_ne npl, upd_same], T.c_Heap, T.n_Heap_tree, by show 1 < 1000; decide, ?_⟩
    have hl0 : H l = none := by rw [upd_ne npl.symm] at hl; exact hl
    have f1 : Fr [p] H (upd H p (.ins (He.ga K "Heap") dx (putF "asker" (.ref c.p) []))) := Fr.put1 hp rfl
    have f2 := f1.trans (Fr.new (o := .lst []) hl)
    have f3 := f2.trans (Fr.put1 (o := .ins (He.ga K "Heap") dx (putF "tree" (.ref l) (putF "asker" (.ref c.p) []))) (by rw [upd_ne npl, upd_same]) rfl)
    refine q l _ hl0 f3 ⟨⟨dx, ?_⟩, by rw [upd_ne npl.symm, upd_same]; rfl, ha.newL hl0⟩
    rw [upd_same]
    rfl
theorem sc_Heap_put : FnScope ["self", "x", "tree"] ["self", "x"] (defScope s_Heap_put) := ⟨rfl, rfl, rfl, by decide +kernel, rfl, by decide +kernel, by decide +kernel⟩
theorem ok_Heap_put (T : Hd K mg) : MOk P w K mg base 8 (He.ga K "Heap") "put" ["self", "x"] (spHeapPut K) := by
  refine mkM T 39 98 102 rfl rfl rfl sc_Heap_put (fun _ _ _ _ _ _ us hl => match us, hl with | [_, _], _ => rfl) (fun vs H Q E h => ?_) (fun cdv A outer s H vs Q E hr h => ?_)
  · obtain ⟨c, q, S, TL, t, x, rfl, _⟩ := h; rfl
  · obtain ⟨c, n, S, TL, t, x, rfl, ha, hh, ht, hx, hxt, hlen, hn, q⟩ := h
    refine ⟨_, (pss_cons (ps_expr (pe_cd (ok_check_number T) (hr.mono (by decide)) (pa_cons (pe_md0 (ok_Noted_many T) (hr.mono (by decide)) (pe_fld (pv 0) rfl)) (pa_cons (pv 1) pa_nil))))
      (pss_cons (ps_if (pt_cmpR op_in_seq (pv 1) (pe_fld (pv 0) rfl) rfl)
        (pss_one ps_never)
        pss_nil)
      (pss_cons (ps_set (i := 2) sc_Heap_put.nd rfl (Or.inl rfl) (pe_op op_cat (pe_fld (pv 0) rfl) (pe_lst (pa_cons (pv 1) pa_nil))))
      (pss_cons (ps_expr (pe_cd (ok_put_up T) (hr.mono (by decide)) (pa_cons (pe_fld (pv 0) rfl) (pa_cons (pv 2) (pa_cons (pe_op op_subN (pe_callB call_len_seq (by rfl) T.f_len (by decide +kernel) (pa_cons (pv 2) pa_nil)) pe_int) pa_nil)))))
      (pss_one (ps_fld (pv 0) (pv 2) rfl)))))), ?_⟩
    obtain ⟨dx, hS⟩ := hh.hp
    refine ⟨_, rfl, _, _, _, _, _, rfl, hS, T.c_Heap, T.n_Heap_asker, rfl, _, _, _, rfl, ha.hp, rfl, c, n, rfl, ha, _, rfl, c.n, x, rfl, hx, ?_⟩
    refine ⟨_, rfl, _, rfl, _, _, _, _, _, rfl, hS, T.c_Heap, T.n_Heap_tree, rfl, TL, _, rfl, .inl (SqL.of hh.hl), rfl, vL_flat _, ?_⟩
    rw [if_neg (by decide), inV_int hxt]
    refine ⟨_, rfl, _, rfl, _, _, _, _, _, rfl, hS, T.c_Heap, T.n_Heap_tree, rfl, _, rfl, by show 1 ≤ sizeLine; decide, fun b hb => ?_⟩
    have hlb : TL ≠ b := ne_of_none hh.hl hb
    refine ⟨TL, b, _, _, rfl, rfl, by rw [upd_ne hlb]; exact hh.hl, upd_same, by rw [vL_length]; exact sz_small (by show t.length + 1 ≤ _; omega), fun L hL => ?_⟩
    have hLb : b ≠ L := ne_of_none upd_same hL
    have hL0 : H L = none := by rw [upd_ne hLb.symm] at hL; exact hL
    have f2 : Fr [] H (upd (upd H b (.lst [vI x])) L (.lst (vL (t ++ [x])))) := (Fr.new hb).trans (Fr.new hL)
    rw [show [vI x] = vL [x] from rfl, vL_append]
    have e2 : upd (upd H b (.lst (vL [x]))) L (.lst (vL (t ++ [x]))) L = some (.lst (vL (t ++ [x]))) := upd_same
    have ha2 := ha.keep0 f2
    have hS2 := f2.keep _ _ (by simp) hS
    have nL := ha.newL hL0
    refine ⟨_, rfl, _, _, _, _, _, rfl, hS2, T.c_Heap, T.n_Heap_asker, rfl, _, rfl, _, rfl, L, _, rfl, .inl (SqL.of e2), t.length + 1, 1, by rw [vL_length, List.length_append]; rfl, rfl, by omega, ?_⟩
    rw [Nat.add_sub_cancel]
    refine ⟨c, n, L, t ++ [x], t.length, rfl, ha2, e2, nL, fun y hy => ?_, by simp, by simp; omega, by rw [gv_end]; exact hn, fun H3 f3 ha3 e3 => ?_⟩
    · rcases List.mem_append.mp hy with m | m
      · exact ht y m
      · rw [List.mem_singleton.mp m]; exact hx
    · rw [gv_end] at ha3 e3
      have hSl : S ≠ c.l := ha.neB hS
      have hSL : S ≠ L := ne_of_none hS hL0
      have hS3 := f3.keep S _ (by simp [hSl, hSL]) hS2
      refine ⟨_, rfl, _, rfl, S, _, dx, _, rfl, hS3, T.c_Heap, T.n_Heap_tree, by show 2 < 1000; decide, ?_⟩
      have F : Fr [c.l, L, S] H _ := ((f2.mono (fun b hb => by cases hb)).trans (f3.mono (by simp))).trans (Fr.put (p := S) (o := .ins (He.ga K "Heap") dx (putF "tree" (.ref L) [("asker", .ref c.p), ("tree", .ref TL)])) (by simp) hS3 rfl)
      refine q L _ hL0 (F.drop fun b hb => ?_) (ha3.keep (Fr.put1 hS3 rfl) ?_ ?_) ⟨⟨dx, ?_⟩, ?_, nL⟩
      · simp only [List.mem_cons, List.not_mem_nil, or_false] at hb
        rcases hb with rfl | rfl | rfl
        · exact .inl (by simp)
        · exact .inr hL0
        · exact .inl (by simp)
      · simpa using ha3.neI hS3 (by show (2 : Nat) ≠ 5; decide)
      · simpa using hSl.symm
      · rw [upd_same]; rfl
      · rw [upd_ne hSL.symm]; exact e3
theorem sc_Heap_put_all : FnScope ["self", "line", "x", "tree", "place"] ["self", "line"] (defScope s_Heap_put_all) := ⟨rfl, rfl, rfl, by decide +kernel, rfl, by decide +kernel, by decide +kernel⟩
theorem ok_Heap_put_all (T : Hd K mg) : MOk P w K mg base 8 (He.ga K "Heap") "put_all" ["self", "line"] (spHeapPutAll K) := by
  refine mkM T 40 98 103 rfl rfl rfl sc_Heap_put_all (fun _ _ _ _ _ _ us hl => match us, hl with | [_, _], _ => rfl) (fun vs H Q E h => ?_) (fun cdv A outer s H vs Q E hr h => ?_)
  · obtain ⟨c, q, S, TL, a, l, rfl, _⟩ := h; rfl
  · obtain ⟨c, n, S, TL, a, l, rfl, ha, hh, hA, nd, hl, hlen, hn, q⟩ := h
    refine ⟨_, (pss_cons (ps_expr (pe_cd (ok_check_line T) (hr.mono (by decide)) (pa_cons (pe_md0 (ok_Noted_many T) (hr.mono (by decide)) (pe_fld (pv 0) rfl)) (pa_cons (pv 1) pa_nil))))
      (Evl.pss_cut (ps_for PassesOwn.never rfl (pi_tup (pv 1)) (pg_name (i := 2) sc_Heap_put_all.nd rfl (Or.inl rfl))
        (pss_one (ps_if (pt_cmpR op_in_seq (pv 2) (pe_fld (pv 0) rfl) rfl)
          (pss_one ps_never)
          pss_nil)))
      (pss_cons (ps_set (i := 3) sc_Heap_put_all.nd rfl (Or.inl rfl) (pe_op op_cat (pe_fld (pv 0) rfl) (pe_callTy call_list_of (by rfl) T.f_list (by decide +kernel) (pa_cons (pv 1) pa_nil))))
      (Evl.pss_cut (ps_for PassesOwn.never rfl (pi_revR (by rfl) T.f_reversed (prg_1 (by rfl) T.f_range (pe_op op_fdivNN (pe_callB call_len_seq (by rfl) T.f_len (by decide +kernel) (pa_cons (pv 3) pa_nil)) pe_int))) (pg_name (i := 4) sc_Heap_put_all.nd rfl (Or.inl rfl))
        (pss_one (ps_expr (pe_cd (ok_put_down T) (hr.mono (by decide)) (pa_cons (pe_fld (pv 0) rfl) (pa_cons (pv 3) (pa_cons (pv 4) pa_nil)))))))
      (pss_one (ps_fld (pv 0) (pv 3) rfl)))))), ?_⟩
    obtain ⟨dx, hS⟩ := hh.hp
    refine ⟨_, rfl, _, _, _, _, _, rfl, hS, T.c_Heap, T.n_Heap_asker, rfl, _, _, _, rfl, ha.hp, rfl, c, n, rfl, ha, _, rfl, c.n, a, l, rfl, hA, nd, hl, by omega, fun H1 f1 => ?_⟩
    have ha1 := ha.keep0 f1
    have hh1 := hh.keep0 f1
    have hS1 := f1.keep _ _ (by simp) hS
    have hA1 := f1.tup _ _ hA
    refine ⟨fun σ' H' => H' = H1 ∧ ∃ z, σ' = [some (.ref S), some (.ref a), z, none, none], ?_, ?_⟩
    · refine ⟨_, rfl, a, rfl, ⟨_, SqT.of hA1⟩, for_it (walk_tup (xs := vL l)) (fun i σ H' => H' = H1 ∧ ∃ z, σ = [some (.ref S), some (.ref a), z, none, none]) ⟨rfl, _, rfl⟩ (fun _ _ _ _ p => by rw [p.1]; exact SqT.of hA1) ?_ (fun _ _ p => p)⟩
      rintro i x σ H2 H3 hi ⟨rfl, z, rfl⟩ ⟨rfl, hx⟩
      obtain ⟨y, hy, rfl⟩ := map_get hx
      refine ⟨_, rfl, _, rfl, _, _, _, _, _, rfl, hS1, T.c_Heap, T.n_Heap_tree, rfl, TL, _, rfl, .inl (SqL.of hh1.hl), rfl, rfl, ?_⟩
      exact ⟨_, rfl, rfl, _, rfl⟩
    · rintro σ' H1 ⟨rfl, z, rfl⟩
      refine ⟨_, rfl, _, _, _, _, _, rfl, hS1, T.c_Heap, T.n_Heap_tree, rfl, _, rfl, a, _, rfl, .inr (SqT.of hA1), fun b hb => ?_⟩
      have hlb : TL ≠ b := ne_of_none hh1.hl hb
      refine ⟨TL, b, _, _, rfl, rfl, by rw [upd_ne hlb]; exact hh1.hl, upd_same, by rw [vL_length, vL_length, List.length_nil]; exact sz_small (by omega), fun L hL => ?_⟩
      have hLb : b ≠ L := ne_of_none upd_same hL
      have hL1 : H1 L = none := by rw [upd_ne hLb.symm] at hL; exact hL
      have hL0 := f1.none (by simp) hL1
      have f2 : Fr [] H (upd (upd H1 b (.lst (vL l))) L (.lst (vL [] ++ vL l))) := f1.trans ((Fr.new hb).trans (Fr.new hL))
      have e2 : upd (upd H1 b (.lst (vL l))) L (.lst (vL [] ++ vL l)) L = some (.lst (vL l)) := upd_same
      have ha2 := ha.keep0 f2
      have hS2 := f2.keep _ _ (by simp) hS
      have nL := ha.newL hL0
      refine ⟨fun σ' H' => ∃ z1 : Option V, σ' = [some (.ref S), some (.ref a), z, some (.ref L), z1] ∧ Fr [c.l, L] H H' ∧ AskAt K c (n + (bd c.rk l (l.length / 2)).2) H' ∧ H' L = some (.lst (vL (bd c.rk l (l.length / 2)).1)), ?_, ?_⟩
      · refine ⟨_, rfl, L, _, rfl, .inl (SqL.of e2), l.length, 2, by rw [vL_length], rfl, by decide, _, rfl, by decide, by decide, by omega, by omega, ?_⟩
        refine for_it walk_rangeC (fun i σ H' => ∃ (z1 : Option V) (t1 : List Nat) (q1 : Nat), σ = [some (.ref S), some (.ref a), z, some (.ref L), z1] ∧ Fr [c.l, L] H H' ∧ AskAt K c q1 H' ∧ H' L = some (.lst (vL t1)) ∧ t1.length = l.length ∧ (∀ y ∈ t1, y < c.n) ∧ (bd c.rk t1 (l.length / 2 - i)).1 = (bd c.rk l (l.length / 2)).1 ∧ q1 + (bd c.rk t1 (l.length / 2 - i)).2 = n + (bd c.rk l (l.length / 2)).2) ⟨_, l, n, rfl, f2.mono (fun b hb => by cases hb), ha2, e2, rfl, hl, rfl, rfl⟩ (fun _ _ _ _ _ => trivial) ?_ ?_
        · rintro i x σ H3 H4 hi ⟨z1, t1, q1, rfl, f3, ha3, e3, hl3, ht3, g1, g2⟩ ⟨rfl, rfl⟩
          have hi : i < l.length / 2 := by omega
          obtain ⟨j, hj⟩ : ∃ j, l.length / 2 - i = j + 1 := ⟨l.length / 2 - i - 1, by omega⟩
          rw [hj] at g1 g2
          have hj2 : l.length / 2 - (i + 1) = j := by omega
          rw [hj2]
          have hS3 := f3.keep S _ (by simp [ha.neB hS, ne_of_none hS hL0]) hS
          have hb0 : (bd c.rk t1 (j + 1)).2 = (bd c.rk (dn c.rk (gv t1 j) t1 j).1 j).2 + (dn c.rk (gv t1 j) t1 j).2 := rfl
          refine ⟨_, rfl, _, _, _, _, _, rfl, hS3, T.c_Heap, T.n_Heap_asker, rfl, _, rfl, _, rfl, c, q1, L, t1, j, ?_, ha3, e3, nL, ht3, by omega, by omega, by omega, fun H5 f5 ha5 e5 => ?_⟩
          · have : (0 : Int) + (((((l.length / 2 : Nat) : Int) - 0).toNat : Nat) : Int) - 1 + (i : Int) * -1 = (j : Int) := by omega
            exact congrArg (fun z => [V.ref c.p, V.ref L, V.int z]) this
          · refine ⟨_, _, _, rfl, f3.trans f5, ha5, e5, ?_, ?_, g1, by rw [← g2, hb0]; omega⟩
            · rw [dn_length c.rk (gv t1 j) _ rfl]; exact hl3
            · have hj3 : j < t1.length := by omega
              have hd := dn_perm c.rk (gv t1 j) _ t1 j rfl hj3
              rw [set_self] at hd
              exact fun y hy => ht3 y (hd.subset hy)
        · rintro σ H3 ⟨z1, t1, q1, rfl, f3, ha3, e3, hl3, ht3, g1, g2⟩
          have e0 : l.length / 2 - (((l.length / 2 : Nat) : Int) - 0).toNat = 0 := by omega
          rw [e0] at g1 g2
          refine ⟨_, rfl, f3, ?_, ?_⟩
          · rw [← g2]; exact ha3
          · rw [← g1]; exact e3
      · rintro σ' H3 ⟨z1, rfl, f3, ha3, e3⟩
        have hSl : S ≠ c.l := ha.neB hS
        have hSL : S ≠ L := ne_of_none hS hL0
        have hS3 := f3.keep S _ (by simp [hSl, hSL]) hS
        refine ⟨_, rfl, _, rfl, S, _, dx, _, rfl, hS3, T.c_Heap, T.n_Heap_tree, by show 2 < 1000; decide, ?_⟩
        have F : Fr [c.l, L, S] H _ := (f3.mono (by simp)).trans (Fr.put (p := S) (o := .ins (He.ga K "Heap") dx (putF "tree" (.ref L) [("asker", .ref c.p), ("tree", .ref TL)])) (by simp) hS3 rfl)
        refine q L _ hL0 (F.drop fun b hb => ?_) (ha3.keep (Fr.put1 hS3 rfl) ?_ ?_) ⟨⟨dx, ?_⟩, ?_, nL⟩
        · simp only [List.mem_cons, List.not_mem_nil, or_false] at hb
          rcases hb with rfl | rfl | rfl
          · exact .inl (by simp)
          · exact .inr hL0
          · exact .inl (by simp)
        · simpa using ha3.neI hS3 (by show (2 : Nat) ≠ 5; decide)
        · simpa using hSl.symm
        · rw [upd_same]; rfl
        · rw [upd_ne hSL.symm]; exact e3
theorem sc_Heap_first : FnScope ["self"] ["self"] (defScope s_Heap_first) := ⟨rfl, rfl, rfl, by decide +kernel, rfl, by decide +kernel, by decide +kernel⟩
theorem ok_Heap_first (T : Hd K mg) : MOk P w K mg base 1 (He.ga K "Heap") "first" ["self"] (spHeapFirst K) := by
  refine mkM T 41 98 104 rfl rfl rfl sc_Heap_first (fun _ _ _ _ _ _ us hl => match us, hl with | [_], _ => rfl) (fun vs H Q E h => ?_) (fun cdv A outer s H vs Q E hr h => ?_)
  · obtain ⟨c, S, TL, t, rfl, _⟩ := h; rfl
  · obtain ⟨c, S, TL, t, rfl, hh, hne, q⟩ := h
    refine ⟨_, (pss_cons (ps_if (pt_cmpR (op_eqD hr.units) (pe_fld (pv 0) rfl) (pe_lst pa_nil) (nomark _))
        (pss_one ps_never)
        pss_nil)
      (pss_one (ps_ret (pe_ix ix_list (pe_fld (pv 0) rfl) pe_int (fun _ _ => rfl))))), ?_⟩
    obtain ⟨dx, hS⟩ := hh.hp
    have hlt : 0 < t.length := List.length_pos_iff.mpr hne
    refine ⟨_, rfl, _, _, _, _, _, rfl, hS, T.c_Heap, T.n_Heap_tree, rfl, Nat.zero_le _, fun b hb => ?_⟩
    have fb : Fr [] H (upd H b (.lst [])) := Fr.new hb
    have hh1 := hh.keep0 fb
    refine eq_lst (m := []) hh1.hl upd_same ?_
    rw [decide_eq_false hne]
    exact ⟨_, rfl, _, rfl, _, _, _, _, _, rfl, fb.keep _ _ (by simp) hS, T.c_Heap, T.n_Heap_tree, rfl, TL, _, _, _, rfl, rfl, SqL.of hh1.hl, vL_gv hlt, q _ fb⟩
theorem sc_Heap_take : FnScope ["self", "x", "tree"] ["self"] (defScope s_Heap_take) := ⟨rfl, rfl, rfl, by decide +kernel, rfl, by decide +kernel, by decide +kernel⟩
theorem ok_Heap_take (T : Hd K mg) : MOk P w K mg base 8 (He.ga K "Heap") "take" ["self"] (spHeapTake K) := by
  refine mkM T 42 98 105 rfl rfl rfl sc_Heap_take (fun _ _ _ _ _ _ us hl => match us, hl with | [_], _ => rfl) (fun vs H Q E h => ?_) (fun cdv A outer s H vs Q E hr h => ?_)
  · obtain ⟨c, q, S, TL, t, rfl, _⟩ := h; rfl
  · obtain ⟨c, n, S, TL, t, rfl, ha, hh, hne, ht, hlen, hn, q⟩ := h
    refine ⟨_, (pss_cons (ps_set (i := 1) sc_Heap_take.nd rfl (Or.inl rfl) (pe_md0 (ok_Heap_first T) (hr.mono (by decide)) (pv 0)))
      (pss_cons (ps_set (i := 2) sc_Heap_take.nd rfl (Or.inl rfl) (pe_slice sl_list (pe_fld (pv 0) rfl) po_none (po_some (pe_un un_neg pe_int))))
      (Evl.pss_cut (ps_if (pt_cmpR (op_neD hr.units) (pv 2) (pe_lst pa_nil) (nomark _))
        (pss_cons (ps_asg (pe_ix ix_list (pe_fld (pv 0) rfl) (pe_un un_neg pe_int) (fun _ _ => rfl)) (pg_sub (pv 2) pe_int set_list))
        (pss_one (ps_expr (pe_cd (ok_put_down T) (hr.mono (by decide)) (pa_cons (pe_fld (pv 0) rfl) (pa_cons (pv 2) (pa_cons pe_int pa_nil)))))))
        pss_nil)
      (pss_cons (ps_fld (pv 0) (pv 2) rfl)
      (pss_one (ps_ret (pv 1))))))), ?_⟩
    obtain ⟨dx, hS⟩ := hh.hp
    have hlt : 0 < t.length := List.length_pos_iff.mpr hne
    refine ⟨_, rfl, _, _, _, rfl, hS, rfl, c, S, TL, t, rfl, hh, hne, fun H1 f1 => ?_⟩
    have hh1 := hh.keep0 f1
    have hS1 := f1.keep _ _ (by simp) hS
    refine ⟨_, rfl, _, _, _, _, _, rfl, hS1, T.c_Heap, T.n_Heap_tree, rfl, _, rfl, _, rfl, TL, _, rfl, SqL.of hh1.hl, fun L hL => ?_⟩
    have hL0 := f1.none (by simp) hL
    rw [cut_last]
    have f2 : Fr [] H (upd H1 L (.lst (vL t.dropLast))) := f1.trans (Fr.new hL)
    have e2 : upd H1 L (.lst (vL t.dropLast)) L = some (.lst (vL t.dropLast)) := upd_same
    have ha2 := ha.keep0 f2
    have hh2 := hh.keep0 f2
    have hS2 := f2.keep _ _ (by simp) hS
    have nL := ha.newL hL0
    have hdl : t.dropLast.length = t.length - 1 := List.length_dropLast
    refine ⟨fun σ' H' => σ' = [some (.ref S), some (vI (gv t 0)), some (.ref L)] ∧ Fr [c.l, L] H H' ∧ AskAt K c (n + (tk c.rk t).2) H' ∧ H' L = some (.lst (vL (tk c.rk t).1)), ?_, ?_⟩
    · refine ⟨_, rfl, Nat.zero_le _, fun b hb => ?_⟩
      have fb : Fr [] (upd H1 L (.lst (vL t.dropLast))) (upd (upd H1 L (.lst (vL t.dropLast))) b (.lst [])) := Fr.new hb
      have eb := fb.keep L _ (by simp) e2
      refine ne_lst (m := []) eb upd_same ?_
      refine ⟨_, rfl, itN (fun ne => ?_) (fun e => ?_)⟩
      · have etk : tk c.rk t = dn c.rk (gv t (t.length - 1)) (t.dropLast.set 0 (gv t (t.length - 1))) 0 := by unfold tk; rw [if_neg ne]
        have hpos : 0 < t.dropLast.length := List.length_pos_iff.mpr ne
        have hhb := hh2.keep0 fb
        have hSb := fb.keep _ _ (by simp) hS2
        refine ⟨_, rfl, _, _, _, _, _, rfl, hSb, T.c_Heap, T.n_Heap_tree, rfl, _, rfl, TL, _, _, _, rfl, rfl, SqL.of hhb.hl, atI_end hne, ?_⟩
        refine ⟨_, rfl, L, _, _, 0, rfl, rfl, eb, ixN_nat (n := (vL t.dropLast).length) (p := 0) (by rw [vL_length]; exact hpos), ?_⟩
        rw [vL_set]
        have f4 : Fr [c.l, L] H _ := (f2.trans fb).mono (fun b hb => by cases hb) |>.trans (Fr.put (p := L) (o := .lst (vL (t.dropLast.set 0 (gv t (t.length - 1))))) (by simp) eb rfl)
        have hS4 := f4.keep S _ (by simp [ha.neB hS, ne_of_none hS hL0]) hS
        have hg0 : gv (t.dropLast.set 0 (gv t (t.length - 1))) 0 = gv t (t.length - 1) := by rw [gv_set hpos, if_pos rfl]
        have ha4 := (ha2.keep0 fb).putL (ys := vL (t.dropLast.set 0 (gv t (t.length - 1)))) eb nL
        refine ⟨_, rfl, _, _, _, _, _, rfl, hS4, T.c_Heap, T.n_Heap_asker, rfl, _, rfl, c, n, L, t.dropLast.set 0 (gv t (t.length - 1)), 0, rfl, ha4, upd_same, nL, set_lt (fun y hy => ht y (List.dropLast_subset t hy)) (gv_lt ht (by omega)), by rw [List.length_set]; exact hpos, by rw [List.length_set]; omega, by rw [hg0, ← etk]; exact hn, fun H5 f5 ha5 e5 => ?_⟩
        rw [hg0, ← etk] at ha5 e5
        exact ⟨rfl, f4.trans f5, ha5, e5⟩
      · have etk : tk c.rk t = ([], 0) := by unfold tk; rw [if_pos e]
        rw [etk]
        refine ⟨rfl, (f2.trans fb).mono (fun b hb => by cases hb), ha2.keep0 fb, ?_⟩
        rw [eb, e]
    · rintro σ' H3 ⟨rfl, f3, ha3, e3⟩
      have hSl : S ≠ c.l := ha.neB hS
      have hSL : S ≠ L := ne_of_none hS hL0
      have hS3 := f3.keep S _ (by simp [hSl, hSL]) hS
      refine ⟨_, rfl, _, rfl, S, _, dx, _, rfl, hS3, T.c_Heap, T.n_Heap_tree, by show 2 < 1000; decide, _, rfl, ?_⟩
      have F : Fr [c.l, L, S] H _ := (f3.mono (by simp)).trans (Fr.put (p := S) (o := .ins (He.ga K "Heap") dx (putF "tree" (.ref L) [("asker", .ref c.p), ("tree", .ref TL)])) (by simp) hS3 rfl)
      refine q L _ hL0 (F.drop fun b hb => ?_) (ha3.keep (Fr.put1 hS3 rfl) ?_ ?_) ⟨⟨dx, ?_⟩, ?_, nL⟩
      · simp only [List.mem_cons, List.not_mem_nil, or_false] at hb
        rcases hb with rfl | rfl | rfl
        · exact .inl (by simp)
        · exact .inr hL0
        · exact .inl (by simp)
      · simpa using ha3.neI hS3 (by show (2 : Nat) ≠ 5; decide)
      · simpa using hSl.symm
      · rw [upd_same]; rfl
      · rw [upd_ne hSL.symm]; exact e3
theorem sc_Heap_held : FnScope ["self"] ["self"] (defScope s_Heap_held) := ⟨rfl, rfl, rfl, by decide +kernel, rfl, by decide +kernel, by decide +kernel⟩
theorem ok_Heap_held (T : Hd K mg) : MOk P w K mg base 1 (He.ga K "Heap") "held" ["self"] (spHeapHeld K) := by
  refine mkM T 43 98 106 rfl rfl rfl sc_Heap_held (fun _ _ _ _ _ _ us hl => match us, hl with | [_], _ => rfl) (fun vs H Q E h => ?_) (fun cdv A outer s H vs Q E hr h => ?_)
  · obtain ⟨c, S, TL, t, rfl, _⟩ := h; rfl
  · obtain ⟨c, S, TL, t, rfl, hh, h64, q⟩ := h
    refine ⟨_, (pss_one (ps_ret (pe_callTy call_tuple_of (by rfl) T.f_tuple (by decide +kernel) (pa_cons (pe_callB cr_sorted (by rfl) T.f_sorted (by decide +kernel) (pa_cons (pe_fld (pv 0) rfl) pa_nil)) pa_nil)))), ?_⟩
    obtain ⟨dx, hS⟩ := hh.hp
    refine ⟨_, rfl, _, _, _, _, _, rfl, hS, T.c_Heap, T.n_Heap_tree, rfl, TL, t.map (fun n : Nat => (n : Int)), rfl, SqL.of (by rw [hh.hl, vL_ints]), by rw [List.length_map]; exact h64, fun ns p hp hw hnp => ?_⟩
    obtain ⟨m, rfl, h1, h2⟩ := vL_nats t ns hp hw
    refine ⟨p, _, rfl, .inl ⟨SqL.of upd_same, fun u hu => ?_⟩⟩
    exact q m u _ h1 h2 ((Fr.new hnp).trans (Fr.new hu)) (by rw [upd_same, vL_ints])
end
end NR

set_option maxRecDepth 100000
set_option maxHeartbeats 4000000
/-! Kept rows. -/
namespace NR
open PySem PySem.Spec PyProof.Rows L2 NM
structure KeptAt (K : PySem.W.Frag) (c : AC) (S NL DL : Addr) (l : List Nat) (d : Nat) (H : Hp) : Prop where
  hp : ∃ dx, H S = some (.ins (He.ga K "Kept") dx [("asker", .ref c.p), ("numbers", .ref NL), ("deeds", .ref DL)])
  hl : H NL = some (.lst (vL l))
  hd : ∃ ds : List V, H DL = some (.lst ds) ∧ ds.length = d
  nl : NL ≠ c.l
  dl : DL ≠ c.l
  nd : NL ≠ DL
def spPlaceAmong (K : PySem.W.Frag) : Sp := fun vs H Q _ => ∃ (c : AC) (q : Nat) (L : Addr) (l : List Nat) (x : Nat), vs = [.ref c.p, .ref L, vI x] ∧ AskAt K c q H ∧ H L = some (.lst (vL l)) ∧ L ≠ c.l ∧ (∀ y ∈ l, y < c.n) ∧ x < c.n ∧ x ∉ l ∧ q + (pm c.rk l x 0 l.length).2 < 90000 ∧
  ∀ H', Fr [c.l] H H' → AskAt K c (q + (pm c.rk l x 0 l.length).2) H' → Q (vI (pm c.rk l x 0 l.length).1) H'
def spKeptInit (K : PySem.W.Frag) : Sp := fun vs H Q _ => ∃ (p dx : Addr) (c : AC) (q : Nat), vs = [.ref p, .ref c.p] ∧ H p = some (.ins (He.ga K "Kept") dx []) ∧ AskAt K c q H ∧ ∀ NL DL H', H NL = none → H DL = none → Fr [p] H H' → KeptAt K c p NL DL [] 0 H' → Q .non H'
def spKeptPut (K : PySem.W.Frag) : Sp := fun vs H Q _ => ∃ (c : AC) (q : Nat) (S NL DL : Addr) (l : List Nat) (d x : Nat), vs = [.ref S, vI x] ∧ AskAt K c q H ∧ KeptAt K c S NL DL l d H ∧ (∀ y ∈ l, y < c.n) ∧ x < c.n ∧ x ∉ l ∧ l.length < 1000 ∧ d < 1000 ∧ q + (kp c.rk l x).2 < 90000 ∧
  ∀ H', Fr [c.l, S, NL, DL] H H' → AskAt K c (q + (kp c.rk l x).2) H' → KeptAt K c S NL DL (kp c.rk l x).1 (d + 1) H' → Q .non H'
def spKeptLine (K : PySem.W.Frag) : Sp := fun vs H Q _ => ∃ (c : AC) (S NL DL : Addr) (l : List Nat) (d : Nat), vs = [.ref S] ∧ KeptAt K c S NL DL l d H ∧ ∀ (a : Addr) H', Fr [] H H' → H' a = some (.tup (vL l)) → Q (.ref a) H'
theorem Fr.fields {xs : List Addr} {H H' : Hp} (a : Fr xs H H') {S C dx : Addr} {fs : List (Str × V)} (n : S ∉ xs) (e : H S = some (.ins C dx fs)) : H' S = some (.ins C dx fs) := a.keep S _ n e
section
variable {P : Program} {w : World} {K : PySem.W.Frag} {mg : Str → Option Value} {base : Heap}
theorem sc_place_among : FnScope ["asker", "line", "x", "start", "end", "middle", "y"] ["asker", "line", "x"] (defScope s_place_among) := ⟨rfl, rfl, rfl, by decide +kernel, rfl, by decide +kernel, by decide +kernel⟩
theorem ok_place_among (T : Hd K mg) : DOk P w K mg base 6 "place_among" ["asker", "line", "x"] (spPlaceAmong K) := by
  refine mkD T 44 31 rfl rfl sc_place_among (fun _ _ _ _ _ _ us hl => match us, hl with | [_, _, _], _ => rfl) (fun vs H Q E h => ?_) (fun cdv A outer s H vs Q E hr h => ?_)
  · obtain ⟨c, q, L, l, x, rfl, _⟩ := h; rfl
  · obtain ⟨c, n, L, l, x, rfl, ha, hL, nL, hl, hx, hxl, hn, q⟩ := h
    refine ⟨_, (pss_cons (ps_set (i := 3) sc_place_among.nd rfl (Or.inl rfl) pe_int)
      (pss_cons (ps_set (i := 4) sc_place_among.nd rfl (Or.inl rfl) (pe_callB call_len_seq (by rfl) T.f_len (by decide +kernel) (pa_cons (pv 1) pa_nil)))
      (pss_cons (ps_while PassesOwn.never (pt_cmpR op_lt (pv 3) (pv 4) (nomark _))
        (pss_cons (ps_set (i := 5) sc_place_among.nd rfl (Or.inl rfl) (pe_op op_fdivNN (pe_op op_addN (pv 3) (pv 4)) pe_int))
        (pss_cons (ps_set (i := 6) sc_place_among.nd rfl (Or.inl rfl) (pe_ix ix_list (pv 1) (pv 5) (fun _ _ => rfl)))
        (pss_one (ps_if (PW.pt (pw_or (PW.pt (pw_and (pt_cmpR op_lt (pv 2) (pv 6) (nomark _)) (pw_and1 (pt_not (pt_val (pe_md (ok_Asker_less T) (hr.mono (by decide)) (pv 0) (pa_cons (pv 6) (pa_cons (pv 2) pa_nil)))))))) (pw_or1 (PW.pt (pw_and (pt_cmpR op_gt (pv 2) (pv 6) (nomark _)) (pw_and1 (pt_val (pe_md (ok_Asker_less T) (hr.mono (by decide)) (pv 0) (pa_cons (pv 2) (pa_cons (pv 6) pa_nil))))))))))
          (pss_one (ps_set (i := 4) sc_place_among.nd rfl (Or.inl rfl) (pv 5)))
          (pss_one (ps_set (i := 3) sc_place_among.nd rfl (Or.inl rfl) (pe_op op_addN (pv 5) pe_int))))))))
      (pss_one (ps_ret (pv 3)))))), ?_⟩
    refine ⟨_, rfl, L, _, rfl, .inl (SqL.of hL), ?_⟩
    rw [vL_length]
    refine ⟨fun m σ H' => ∃ (s e q1 : Nat) (z1 z2 : Option V), m = e - s ∧ σ = [some (.ref c.p), some (.ref L), some (vI x), some (vI s), some (vI e), z1, z2] ∧ s ≤ e ∧ e ≤ l.length ∧ Fr [c.l] H H' ∧ AskAt K c q1 H' ∧ (pm c.rk l x s e).1 = (pm c.rk l x 0 l.length).1 ∧ q1 + (pm c.rk l x s e).2 = n + (pm c.rk l x 0 l.length).2, ⟨_, 0, l.length, n, none, none, rfl, rfl, Nat.zero_le _, Nat.le_refl _, Fr.refl _ _, ha, rfl, rfl⟩, ?_⟩
    rintro m σ H1 ⟨s, e, q1, z1, z2, rfl, rfl, hse, hel, f1, ha1, g1, g2⟩
    refine ⟨_, rfl, _, rfl, _, _, rfl, rfl, _, rfl, itD (fun lt => ?_) (fun nlt => ?_)⟩
    · have lt : s < e := by omega
      have hm : (s + e) / 2 < l.length := by omega
      have hL1 := f1.keep L _ (by simpa using nL) hL
      refine ⟨_, fun _ _ h => h, _, rfl, _, rfl, s, e, rfl, rfl, s + e, 2, rfl, rfl, by decide, ?_⟩
      refine ⟨_, rfl, _, rfl, L, _, _, _, rfl, rfl, SqL.of hL1, vL_gv hm, ?_⟩
      have hne : x ≠ gv l ((s + e) / 2) := fun z => hxl (by rw [z]; exact getD_mem hm)
      have hy := gv_lt hl hm
      have pos : 1 ≤ (pm c.rk l x s e).2 := by
        by_cases z : sa c.rk x (gv l ((s + e) / 2)) = true
        · rw [pm_yes lt z]; exact Nat.succ_pos _
        · rw [pm_no lt z]; exact Nat.succ_pos _
      refine ⟨_, rfl, _, rfl, _, _, rfl, rfl, _, rfl, itD (fun xy => ?_) (fun nxy => ?_)⟩
      · have xy : x < gv l ((s + e) / 2) := by omega
        refine ⟨_, rfl, c.p, c.dx, _, rfl, ha1.hp, rfl, _, rfl, _, rfl, c, q1, _, x, rfl, ha1, hy, hx, by omega, fun H2 f2 ha2 => ⟨_, rfl, itN (fun no => ?_) (fun yes => ?_)⟩⟩
        · have e1 : sa c.rk x (gv l ((s + e) / 2)) = true := by
            unfold sa
            rw [if_pos xy, decide_eq_false no]
            rfl
          rw [pm_yes lt e1] at g1 g2
          dsimp only at g1 g2
          exact ⟨_, rfl, (s + e) / 2 - s, by omega, s, (s + e) / 2, q1 + 1, _, _, rfl, rfl, by omega, by omega, f1.trans f2, ha2, g1, by omega⟩
        · have e1 : ¬ sa c.rk x (gv l ((s + e) / 2)) = true := by
            unfold sa
            rw [if_pos xy, decide_eq_true yes]
            exact Bool.false_ne_true
          rw [pm_no lt e1] at g1 g2
          dsimp only at g1 g2
          refine ⟨_, rfl, _, rfl, _, _, rfl, rfl, _, rfl, ?_⟩
          rw [decide_eq_false (show ¬ ((x : Int) > (gv l ((s + e) / 2) : Nat)) by omega)]
          exact ⟨_, rfl, (s + e) / 2, 1, rfl, rfl, e - ((s + e) / 2 + 1), by omega, (s + e) / 2 + 1, e, q1 + 1, _, _, rfl, rfl, by omega, by omega, f1.trans f2, ha2, g1, by omega⟩
      · have nxy : ¬ x < gv l ((s + e) / 2) := by omega
        have gt : gv l ((s + e) / 2) < x := by omega
        refine ⟨_, rfl, _, rfl, _, _, rfl, rfl, _, rfl, itD (fun _ => ?_) (fun nn => absurd (by omega) nn)⟩
        refine ⟨_, rfl, c.p, c.dx, _, rfl, ha1.hp, rfl, _, rfl, _, rfl, c, q1, x, _, rfl, ha1, hx, hy, by omega, fun H2 f2 ha2 => ⟨_, rfl, itD (fun yes => ?_) (fun no => ?_)⟩⟩
        · have e1 : sa c.rk x (gv l ((s + e) / 2)) = true := by
            unfold sa
            rw [if_neg nxy, decide_eq_true yes]
          rw [pm_yes lt e1] at g1 g2
          dsimp only at g1 g2
          exact ⟨_, rfl, (s + e) / 2 - s, by omega, s, (s + e) / 2, q1 + 1, _, _, rfl, rfl, by omega, by omega, f1.trans f2, ha2, g1, by omega⟩
        · have e1 : ¬ sa c.rk x (gv l ((s + e) / 2)) = true := by
            unfold sa
            rw [if_neg nxy, decide_eq_false no]
            exact Bool.false_ne_true
          rw [pm_no lt e1] at g1 g2
          dsimp only at g1 g2
          exact ⟨_, rfl, (s + e) / 2, 1, rfl, rfl, e - ((s + e) / 2 + 1), by omega, (s + e) / 2 + 1, e, q1 + 1, _, _, rfl, rfl, by omega, by omega, f1.trans f2, ha2, g1, by omega⟩
    · have nlt : ¬ s < e := by omega
      rw [pm_end nlt] at g1 g2
      dsimp only at g1 g2
      refine ⟨_, rfl, ?_⟩
      have := q H1 f1 (by rw [← g2]; exact ha1)
      rw [← g1] at this
      exact this
theorem sc_Kept_init : FnScope ["self", "asker"] ["self", "asker"] (defScope s_Kept_init) := ⟨rfl, rfl, rfl, by decide +kernel, rfl, by decide +kernel, by decide +kernel⟩
theorem ok_Kept_init (T : Hd K mg) : KOk P w K mg base 1 (He.ga K "Kept") "Kept" ["self", "asker"] (spKeptInit K) := by
  refine mkK T 45 63 108 rfl rfl rfl sc_Kept_init (fun _ _ _ _ _ _ us hl => match us, hl with | [_, _], _ => rfl) (fun vs H Q E h => ?_) (fun cdv A outer s H vs Q E hr h => ?_)
  · obtain ⟨p, dx, c, q, rfl, _⟩ := h; rfl
  · obtain ⟨p, dx, c, n, rfl, hp, ha, q⟩ := h
    refine ⟨_, (pss_cons (ps_fld (pv 0) (pv 1) rfl)
      (pss_cons (ps_fld (pv 0) (pe_lst pa_nil) rfl)
      (pss_one (ps_fld (pv 0) (pe_lst pa_nil) rfl)))), ?_⟩
    refine ⟨_, rfl, _, rfl, p, _, dx, _, rfl, hp, T.c_Kept, T.n_Kept_asker, by show 0 < 1000; decide, ?_⟩
    refine ⟨Nat.zero_le _, fun l hl => ?_⟩
    have npl : p ≠ l := ne_of_none upd_same hl
    refine ⟨_, rfl, p, _, dx, _, rfl, by rw [upd_ne npl, upd_same], T.c_Kept, T.n_Kept_numbers, by show 1 < 1000; decide, ?_⟩
    refine ⟨Nat.zero_le _, fun m hm => ?_⟩
    have npm : p ≠ m := ne_of_none upd_same hm
    have nlm : l ≠ m := fun z => by rw [← z, upd_ne npl.symm, upd_same] at hm; cases hm
    refine ⟨_, rfl, p, _, dx, _, rfl, by rw [upd_ne npm, upd_same], T.c_Kept, T.n_Kept_deeds, by show 2 < 1000; decide, ?_⟩
    have hl0 : H l = none := by rw [upd_ne npl.symm] at hl; exact hl
    have hm0 : H m = none := by rw [upd_ne npm.symm, upd_ne nlm.symm, upd_ne npm.symm] at hm; exact hm
    have f1 : Fr [p] H (upd H p (.ins (He.ga K "Kept") dx (putF "asker" (.ref c.p) []))) := Fr.put1 hp rfl
    have f2 := f1.trans (Fr.new (o := .lst []) hl)
    have f3 := f2.trans (Fr.put1 (o := .ins (He.ga K "Kept") dx (putF "numbers" (.ref l) (putF "asker" (.ref c.p) []))) (by rw [upd_ne npl, upd_same]) rfl)
    have f4 := f3.trans (Fr.new (o := .lst []) hm)
    have f5 := f4.trans (Fr.put1 (o := .ins (He.ga K "Kept") dx (putF "deeds" (.ref m) (putF "numbers" (.ref l) (putF "asker" (.ref c.p) [])))) (by rw [upd_ne npm, upd_same]) rfl)
    refine q l m _ hl0 hm0 f5 ⟨⟨dx, ?_⟩, by rw [upd_ne npl.symm, upd_ne nlm, upd_ne npl.symm, upd_same]; rfl, ⟨[], by rw [upd_ne npm.symm, upd_same], rfl⟩, ha.newL hl0, ha.newL hm0, nlm⟩
    rw [upd_same]
    rfl
theorem sc_Kept_put : FnScope ["self", "x", "place"] ["self", "x"] (defScope s_Kept_put) := ⟨rfl, rfl, rfl, by decide +kernel, rfl, by decide +kernel, by decide +kernel⟩
theorem ok_Kept_put (T : Hd K mg) : MOk P w K mg base 7 (He.ga K "Kept") "put" ["self", "x"] (spKeptPut K) := by
  refine mkM T 46 107 112 rfl rfl rfl sc_Kept_put (fun _ _ _ _ _ _ us hl => match us, hl with | [_, _], _ => rfl) (fun vs H Q E h => ?_) (fun cdv A outer s H vs Q E hr h => ?_)
  · obtain ⟨c, q, S, NL, DL, l, d, x, rfl, _⟩ := h; rfl
  · obtain ⟨c, n, S, NL, DL, l, d, x, rfl, ha, hk, hl, hx, hxl, hlen, hd, hn, q⟩ := h
    refine ⟨_, (pss_cons (ps_expr (pe_cd (ok_check_number T) (hr.mono (by decide)) (pa_cons (pe_md0 (ok_Noted_many T) (hr.mono (by decide)) (pe_fld (pv 0) rfl)) (pa_cons (pv 1) pa_nil))))
      (pss_cons (ps_if (pt_cmpR op_in_seq (pv 1) (pe_fld (pv 0) rfl) rfl)
        (pss_one ps_never)
        pss_nil)
      (pss_cons (ps_set (i := 2) sc_Kept_put.nd rfl (Or.inl rfl) (pe_cd (ok_place_among T) (hr.mono (by decide)) (pa_cons (pe_fld (pv 0) rfl) (pa_cons (pe_fld (pv 0) rfl) (pa_cons (pv 1) pa_nil)))))
      (pss_cons (ps_expr (pe_bm PySem.F.plainAttrs_list PySem.F.slot_list_insert PySem.F.type_list_insert mt_insert (pe_fld (pv 0) rfl) (pa_cons (pv 2) (pa_cons (pv 1) pa_nil))))
      (pss_one (ps_expr (pe_bm PySem.F.plainAttrs_list PySem.F.slot_list_append PySem.F.type_list_append mt_append (pe_fld (pv 0) rfl) (pa_cons (pe_tup (pa_cons pe_bl (pa_cons (pv 2) (pa_cons (pv 1) pa_nil)))) pa_nil)))))))), ?_⟩
    obtain ⟨dx, hS⟩ := hk.hp
    have nSl := ha.neB hS
    have nSN : S ≠ NL := ne_of hS hk.hl (by intro z; cases z)
    obtain ⟨ds, hD, hdl⟩ := hk.hd
    have nSD : S ≠ DL := ne_of hS hD (by intro z; cases z)
    refine ⟨_, rfl, _, _, _, _, _, rfl, hS, T.c_Kept, T.n_Kept_asker, rfl, _, _, _, rfl, ha.hp, rfl, c, n, rfl, ha, _, rfl, c.n, x, rfl, hx, ?_⟩
    refine ⟨_, rfl, _, rfl, _, _, _, _, _, rfl, hS, T.c_Kept, T.n_Kept_numbers, rfl, NL, _, rfl, .inl (SqL.of hk.hl), rfl, vL_flat _, ?_⟩
    rw [if_neg (by decide), inV_int hxl]
    have hpl := pm_asks c.rk l x l.length 0 l.length rfl (Nat.zero_le _)
    refine ⟨_, rfl, _, rfl, _, _, _, _, _, rfl, hS, T.c_Kept, T.n_Kept_asker, rfl, _, rfl, _, _, _, _, _, rfl, hS, T.c_Kept, T.n_Kept_numbers, rfl, _, rfl, c, n, NL, l, x, rfl, ha, hk.hl, hk.nl, hl, hx, hxl, hn, fun H1 f1 ha1 => ?_⟩
    have hS1 := f1.keep S _ (by simpa using nSl) hS
    have hN1 := f1.keep NL _ (by simpa using hk.nl) hk.hl
    have hD1 := f1.keep DL _ (by simpa using hk.dl) hD
    refine ⟨_, rfl, _, _, _, _, _, rfl, hS1, T.c_Kept, T.n_Kept_numbers, rfl, .inl ⟨rfl, _, SqL.of hN1⟩, _, rfl, _, rfl, NL, _, _, _, rfl, rfl, hN1, by rw [vL_length]; exact sz_lt (by omega), by omega, by omega, ?_⟩
    rw [vL_ins]
    have f2 : Fr [c.l, S, NL, DL] H (upd H1 NL (.lst (vL (insAt l (pm c.rk l x 0 l.length).1 x)))) := (f1.mono (by simp)).trans (Fr.put (by simp) hN1 rfl)
    have ha2 := ha1.putL (ys := vL (insAt l (pm c.rk l x 0 l.length).1 x)) hN1 hk.nl
    have hDn : upd H1 NL (.lst (vL (insAt l (pm c.rk l x 0 l.length).1 x))) DL = some (.lst ds) := by rw [upd_ne hk.nd.symm]; exact hD1
    have hS2 : upd H1 NL (.lst (vL (insAt l (pm c.rk l x 0 l.length).1 x))) S = some (.ins (He.ga K "Kept") dx [("asker", .ref c.p), ("numbers", .ref NL), ("deeds", .ref DL)]) := by rw [upd_ne nSN]; exact hS1
    refine ⟨_, rfl, _, _, _, _, _, rfl, hS2, T.c_Kept, T.n_Kept_deeds, rfl, .inl ⟨rfl, _, SqL.of hDn⟩, _, rfl, _, rfl, by show 3 ≤ sizeLine; decide, fun t ht => ?_⟩
    have nNt : NL ≠ t := ne_of_none upd_same ht
    have hDt : upd H1 NL (.lst (vL (insAt l (pm c.rk l x 0 l.length).1 x))) DL = some (.lst ds) := by rw [upd_ne hk.nd.symm]; exact hD1
    have nDt : DL ≠ t := ne_of_none hDt ht
    have hSt : upd H1 NL (.lst (vL (insAt l (pm c.rk l x 0 l.length).1 x))) S = _ := (upd_ne nSN).trans hS1
    have nSt : S ≠ t := ne_of_none hSt ht
    refine ⟨DL, ds, _, rfl, rfl, by rw [upd_ne nDt]; exact hDt, sz_lt (by omega), ?_⟩
    have f3 := f2.trans ((Fr.new (o := .tup [.bl true, vI (pm c.rk l x 0 l.length).1, vI x]) ht).trans (Fr.put (p := DL) (o := .lst (ds ++ [.ref t])) (by simp) (by rw [upd_ne nDt]; exact hDt) rfl))
    refine q _ f3 ((ha2.keep0 (Fr.new ht)).putL (by rw [upd_ne nDt]; exact hDt) hk.dl) ⟨⟨dx, ?_⟩, ?_, ⟨_, upd_same, by rw [List.length_append, hdl]; rfl⟩, hk.nl, hk.dl, hk.nd⟩
    · rw [upd_ne nSD, upd_ne nSt]; exact hSt
    · rw [upd_ne hk.nd, upd_ne nNt, upd_same]; rfl
theorem sc_Kept_line : FnScope ["self"] ["self"] (defScope s_Kept_line) := ⟨rfl, rfl, rfl, by decide +kernel, rfl, by decide +kernel, by decide +kernel⟩
theorem ok_Kept_line (T : Hd K mg) : MOk P w K mg base 1 (He.ga K "Kept") "line" ["self"] (spKeptLine K) := by
  refine mkM T 47 107 113 rfl rfl rfl sc_Kept_line (fun _ _ _ _ _ _ us hl => match us, hl with | [_], _ => rfl) (fun vs H Q E h => ?_) (fun cdv A outer s H vs Q E hr h => ?_)
  · obtain ⟨c, S, NL, DL, l, d, rfl, _⟩ := h; rfl
  · obtain ⟨c, S, NL, DL, l, d, rfl, hk, q⟩ := h
    refine ⟨_, (pss_one (ps_ret (pe_callTy call_tuple_of (by rfl) T.f_tuple (by decide +kernel) (pa_cons (pe_fld (pv 0) rfl) pa_nil)))), ?_⟩
    obtain ⟨dx, hS⟩ := hk.hp
    exact ⟨_, rfl, _, _, _, _, _, rfl, hS, T.c_Kept, T.n_Kept_numbers, rfl, NL, _, rfl, .inl ⟨SqL.of hk.hl, fun t ht => q t _ (Fr.new ht) upd_same⟩⟩
end
end NR

set_option maxRecDepth 100000
set_option maxHeartbeats 4000000
/-! Meetings: made, a line's front, two met. -/
namespace NR
open PySem PySem.Spec PyProof.Rows L2 NM
def oV : Option Nat → V
  | none => .non
  | some i => vI i
def LinesAt (H : Hp) (LA : Addr) (ls : List (List Nat)) : Prop := ∃ vs : List V, H LA = some (.tup vs) ∧ vs.length = ls.length ∧ ∀ i, i < ls.length → ∃ a : Addr, vs[i]? = some (.ref a) ∧ H a = some (.tup (vL (ls.getD i [])))
theorem LinesAt.keep {xs : List Addr} {H H' : Hp} {LA : Addr} {ls : List (List Nat)} (h : LinesAt H LA ls) (f : Fr xs H H') : LinesAt H' LA ls := by
  obtain ⟨vs, h1, h2, h3⟩ := h
  exact ⟨vs, f.tup _ _ h1, h2, fun i hi => by
    obtain ⟨a, e1, e2⟩ := h3 i hi
    exact ⟨a, e1, f.tup _ _ e2⟩⟩
abbrev SentD := List (List Key × V)
structure MeetAt (K : PySem.W.Frag) (c : AC) (S LA G D : Addr) (ls : List (List Nat)) (bw : Bool) (gone : List Nat) (kvs : SentD) (lat : Option Nat) (H : Hp) : Prop where
  hp : ∃ dx, H S = some (.ins (He.ga K "Meetings") dx [("asker", .ref c.p), ("lines", .ref LA), ("backwards", .bl bw), ("gone", .ref G), ("sent", .ref D), ("latest", oV lat)])
  hL : LinesAt H LA ls
  hG : H G = some (.lst (vL gone))
  hD : H D = some (.dT kvs)
  gl : G ≠ c.l
/-- the numbers are of the asker's; what has gone -/
structure MNum (c : AC) (ls : List (List Nat)) (gone : List Nat) : Prop where
  lt : ∀ i, i < ls.length → ∀ y ∈ ls.getD i [], y < c.n
  len : ls.length = gone.length
theorem MeetAt.keep {K : PySem.W.Frag} {c : AC} {S LA G D : Addr} {ls : List (List Nat)} {bw : Bool} {gone : List Nat} {kvs : SentD} {lat : Option Nat} {H H' : Hp} {xs : List Addr} (h : MeetAt K c S LA G D ls bw gone kvs lat H) (f : Fr xs H H') (n1 : S ∉ xs) (n2 : G ∉ xs) (n3 : D ∉ xs) : MeetAt K c S LA G D ls bw gone kvs lat H' := by
  obtain ⟨dx, e⟩ := h.hp
  exact ⟨⟨dx, f.keep _ _ n1 e⟩, h.hL.keep f, f.keep _ _ n2 h.hG, f.keep _ _ n3 h.hD, h.gl⟩
theorem MeetAt.keep0 {K : PySem.W.Frag} {c : AC} {S LA G D : Addr} {ls : List (List Nat)} {bw : Bool} {gone : List Nat} {kvs : SentD} {lat : Option Nat} {H H' : Hp} (h : MeetAt K c S LA G D ls bw gone kvs lat H) (f : Fr [] H H') : MeetAt K c S LA G D ls bw gone kvs lat H' := h.keep f (by simp) (by simp) (by simp)
theorem AskAt.neD {K : PySem.W.Frag} {c : AC} {q : Nat} {H : Hp} (h : AskAt K c q H) {D : Addr} {kvs : SentD} (e : H D = some (.dT kvs)) : c.p ≠ D ∧ c.l ≠ D := by
  obtain ⟨bk, z, _⟩ := h.hl
  exact ⟨ne_of h.hp e (by intro z; cases z), ne_of z e (by intro z; cases z)⟩
theorem MeetAt.ne {K : PySem.W.Frag} {c : AC} {S LA G D : Addr} {ls : List (List Nat)} {bw : Bool} {gone : List Nat} {kvs : SentD} {lat : Option Nat} {H : Hp} (h : MeetAt K c S LA G D ls bw gone kvs lat H) : S ≠ G ∧ S ≠ D ∧ G ≠ D := by
  obtain ⟨dx, e⟩ := h.hp
  exact ⟨ne_of e h.hG (by intro z; cases z), ne_of e h.hD (by intro z; cases z), ne_of h.hG h.hD (by intro z; cases z)⟩
theorem MeetAt.keepA {K : PySem.W.Frag} {c : AC} {S LA G D : Addr} {ls : List (List Nat)} {bw : Bool} {gone : List Nat} {kvs : SentD} {lat : Option Nat} {H H' : Hp} {q : Nat} (h : MeetAt K c S LA G D ls bw gone kvs lat H) (ha : AskAt K c q H) (f : Fr [c.l] H H') : MeetAt K c S LA G D ls bw gone kvs lat H' := by
  obtain ⟨dx, e⟩ := h.hp
  exact h.keep f (by simpa using ha.neB e) (by simpa using h.gl) (by simpa using (ha.neD h.hD).2.symm)
def spMeetInit (K : PySem.W.Frag) : Sp := fun vs H Q _ => ∃ (p dx : Addr) (c : AC) (q : Nat) (LA : Addr) (ls : List (List Nat)) (bw : Bool), vs = [.ref p, .ref c.p, .ref LA, .bl bw] ∧ H p = some (.ins (He.ga K "Meetings") dx []) ∧ AskAt K c q H ∧ LinesAt H LA ls ∧ ls.length ≤ 1000 ∧
  ∀ G D H', H G = none → H D = none → Fr [p] H H' → MeetAt K c p LA G D ls bw (List.replicate ls.length 0) [] none H' → Q .non H'
def spFront (K : PySem.W.Frag) : Sp := fun vs H Q _ => ∃ (c : AC) (S LA G D : Addr) (ls : List (List Nat)) (bw : Bool) (gone : List Nat) (kvs : SentD) (lat : Option Nat) (i : Nat), vs = [.ref S, vI i] ∧ MeetAt K c S LA G D ls bw gone kvs lat H ∧ ls.length = gone.length ∧ i < ls.length ∧ gone.getD i 0 < (ls.getD i []).length ∧ Q (vI (fr ls gone i)) H
def isIn (ls : List (List Nat)) (gone : List Nat) (a : Option Nat) : Prop := ∀ i, a = some i → i < ls.length ∧ gone.getD i 0 < (ls.getD i []).length
def spMet (K : PySem.W.Frag) : Sp := fun vs H Q _ => ∃ (c : AC) (q : Nat) (S LA G D : Addr) (ls : List (List Nat)) (bw : Bool) (gone : List Nat) (kvs : SentD) (lat a b : Option Nat), vs = [.ref S, oV a, oV b] ∧ AskAt K c q H ∧ MeetAt K c S LA G D ls bw gone kvs lat H ∧ MNum c ls gone ∧ isIn ls gone a ∧ isIn ls gone b ∧ q + metAsk a b < 90000 ∧
  ∀ H', Fr [c.l] H H' → AskAt K c (q + metAsk a b) H' → Q (oV (met c.rk bw ls gone a b)) H'
theorem rep_flat (n x : Nat) : (List.replicate n [vI x]).flatten = vL (List.replicate n x) := by
  unfold vL
  rw [List.map_replicate]
  induction n with
  | zero => rfl
  | succ n ih => rw [List.replicate_succ, List.flatten_cons, ih, List.replicate_succ]; rfl
section
variable {P : Program} {w : World} {K : PySem.W.Frag} {mg : Str → Option Value} {base : Heap}
theorem sc_Meetings_init : FnScope ["self", "asker", "lines", "backwards"] ["self", "asker", "lines", "backwards"] (defScope s_Meetings_init) := ⟨rfl, rfl, rfl, by decide +kernel, rfl, by decide +kernel, by decide +kernel⟩
theorem ok_Meetings_init (T : Hd K mg) : KOk P w K mg base 1 (He.ga K "Meetings") "Meetings" ["self", "asker", "lines", "backwards"] (spMeetInit K) := by
  refine mkK T 48 64 115 rfl rfl rfl sc_Meetings_init (fun _ _ _ _ _ _ us hl => match us, hl with | [_, _, _, _], _ => rfl) (fun vs H Q E h => ?_) (fun cdv A outer s H vs Q E hr h => ?_)
  · obtain ⟨p, dx, c, q, LA, ls, bw, rfl, _⟩ := h; rfl
  · obtain ⟨p, dx, c, n, LA, ls, bw, rfl, hp, ha, hL, hlen, q⟩ := h
    refine ⟨_, (pss_cons (ps_fld (pv 0) (pv 1) rfl)
      (pss_cons (ps_fld (pv 0) (pv 2) rfl)
      (pss_cons (ps_fld (pv 0) (pv 3) rfl)
      (pss_cons (ps_fld (pv 0) (pe_op op_rep (pe_lst (pa_cons pe_int pa_nil)) (pe_callB call_len_seq (by rfl) T.f_len (by decide +kernel) (pa_cons (pv 2) pa_nil))) rfl)
      (pss_cons (ps_fld (pv 0) pe_dnewT rfl)
      (pss_one (ps_fld (pv 0) pe_non rfl))))))), ?_⟩
    refine ⟨_, rfl, _, rfl, p, _, dx, _, rfl, hp, T.c_Meetings, T.n_Meetings_asker, by show 0 < 1000; decide, ?_⟩
    refine ⟨_, rfl, _, rfl, p, _, dx, _, rfl, upd_same, T.c_Meetings, T.n_Meetings_lines, by show 1 < 1000; decide, ?_⟩
    refine ⟨_, rfl, _, rfl, p, _, dx, _, rfl, upd_same, T.c_Meetings, T.n_Meetings_backwards, by show 2 < 1000; decide, ?_⟩
    have f1 : Fr [p] H (upd H p (.ins (He.ga K "Meetings") dx (putF "asker" (.ref c.p) []))) := Fr.put1 hp rfl
    have f2 := f1.trans (Fr.put1 (o := .ins (He.ga K "Meetings") dx (putF "lines" (.ref LA) (putF "asker" (.ref c.p) []))) upd_same rfl)
    have f3 := f2.trans (Fr.put1 (o := .ins (He.ga K "Meetings") dx (putF "backwards" (.bl bw) (putF "lines" (.ref LA) (putF "asker" (.ref c.p) [])))) upd_same rfl)
    have e3 := upd_same (H := upd (upd H p (.ins (He.ga K "Meetings") dx (putF "asker" (.ref c.p) []))) p (.ins (He.ga K "Meetings") dx (putF "lines" (.ref LA) (putF "asker" (.ref c.p) [])))) (a := p) (o := .ins (He.ga K "Meetings") dx (putF "backwards" (.bl bw) (putF "lines" (.ref LA) (putF "asker" (.ref c.p) []))))
    generalize hH3 : upd (upd (upd H p (.ins (He.ga K "Meetings") dx (putF "asker" (.ref c.p) []))) p (.ins (He.ga K "Meetings") dx (putF "lines" (.ref LA) (putF "asker" (.ref c.p) [])))) p (.ins (He.ga K "Meetings") dx (putF "backwards" (.bl bw) (putF "lines" (.ref LA) (putF "asker" (.ref c.p) [])))) = H3 at f3 e3
    refine ⟨by show 1 ≤ sizeLine; decide, fun b hb => ?_⟩
    obtain ⟨vs, hv, hvl, _⟩ := id (hL.keep (f3.trans (Fr.new (o := .lst [vI 0]) hb)))
    refine ⟨_, rfl, LA, _, rfl, .inr (SqT.of hv), b, _, _, rfl, rfl, upd_same, by omega, by omega, ?_, fun G hG => ?_⟩
    · rw [hvl, Int.toNat_natCast]
      show 1 * ls.length ≤ _
      exact sz_small (by omega)
    rw [hvl, Int.toNat_natCast, show (0 : Int) = ((0 : Nat) : Int) from rfl, rep_flat]
    have npb : p ≠ b := ne_of_none e3 hb
    have e3b : upd H3 b (.lst [vI 0]) p = _ := (upd_ne npb).trans e3
    have npG : p ≠ G := ne_of_none e3b hG
    have f4 : Fr [p] H (upd (upd H3 b (.lst [vI 0])) G (.lst (vL (List.replicate ls.length 0)))) := (f3.trans (Fr.new hb)).trans (Fr.new hG)
    have e4 : upd (upd H3 b (.lst [vI 0])) G (.lst (vL (List.replicate ls.length 0))) p = _ := (upd_ne npG).trans e3b
    have g4 : upd (upd H3 b (.lst [vI 0])) G (.lst (vL (List.replicate ls.length 0))) G = _ := upd_same
    have nGb : b ≠ G := ne_of_none upd_same hG
    have hG3 : H3 G = none := by rw [upd_ne nGb.symm] at hG; exact hG
    have hG0 : H G = none := by
      cases e : H G with
      | none => rfl
      | some o => rw [f3.keep G o (by simpa using npG.symm) e] at hG3; cases hG3
    refine ⟨_, rfl, p, _, dx, _, rfl, e4, T.c_Meetings, T.n_Meetings_gone, by show 3 < 1000; decide, ?_⟩
    have f5 := f4.trans (Fr.put1 (o := .ins (He.ga K "Meetings") dx (putF "gone" (.ref G) (putF "backwards" (.bl bw) (putF "lines" (.ref LA) (putF "asker" (.ref c.p) []))))) e4 rfl)
    generalize hH4 : upd (upd H3 b (.lst [vI 0])) G (.lst (vL (List.replicate ls.length 0))) = H4 at f4 e4 g4 f5
    have e5 : upd H4 p (.ins (He.ga K "Meetings") dx (putF "gone" (.ref G) (putF "backwards" (.bl bw) (putF "lines" (.ref LA) (putF "asker" (.ref c.p) []))))) p = _ := upd_same
    have g5 : upd H4 p (.ins (He.ga K "Meetings") dx (putF "gone" (.ref G) (putF "backwards" (.bl bw) (putF "lines" (.ref LA) (putF "asker" (.ref c.p) []))))) G = _ := (upd_ne npG.symm).trans g4
    generalize hH5 : upd H4 p (.ins (He.ga K "Meetings") dx (putF "gone" (.ref G) (putF "backwards" (.bl bw) (putF "lines" (.ref LA) (putF "asker" (.ref c.p) []))))) = H5 at f5 e5 g5
    intro D hD
    have npD : p ≠ D := ne_of_none e5 hD
    have nGD : G ≠ D := ne_of_none g5 hD
    have hD0 : H D = none := by
      cases e : H D with
      | none => rfl
      | some o => rw [f5.keep D o (by simpa using npD.symm) e] at hD; cases hD
    have f6 := f5.trans (Fr.new (o := .dT []) hD)
    have e6 : upd H5 D (.dT []) p = _ := (upd_ne npD).trans e5
    have g6 : upd H5 D (.dT []) G = _ := (upd_ne nGD).trans g5
    have d6 : upd H5 D (.dT []) D = _ := upd_same
    generalize hH6 : upd H5 D (.dT []) = H6 at f6 e6 g6 d6
    refine ⟨_, rfl, p, _, dx, _, rfl, e6, T.c_Meetings, T.n_Meetings_sent, by show 4 < 1000; decide, ?_⟩
    have f7 := f6.trans (Fr.put1 (o := .ins (He.ga K "Meetings") dx (putF "sent" (.ref D) (putF "gone" (.ref G) (putF "backwards" (.bl bw) (putF "lines" (.ref LA) (putF "asker" (.ref c.p) [])))))) e6 rfl)
    have f8 := f7.trans (Fr.put1 (o := .ins (He.ga K "Meetings") dx (putF "latest" .non (putF "sent" (.ref D) (putF "gone" (.ref G) (putF "backwards" (.bl bw) (putF "lines" (.ref LA) (putF "asker" (.ref c.p) []))))))) upd_same rfl)
    refine ⟨_, rfl, p, _, dx, _, rfl, upd_same, T.c_Meetings, T.n_Meetings_latest, by show 5 < 1000; decide, ?_⟩
    refine q G D _ hG0 hD0 f8 ⟨⟨dx, ?_⟩, hL.keep f8, ?_, ?_, ha.newL hG0⟩
    · rw [upd_same]; rfl
    · rw [upd_ne npG.symm, upd_ne npG.symm]; exact g6
    · rw [upd_ne npD.symm, upd_ne npD.symm]; exact d6
theorem sc_Meetings_front : FnScope ["self", "at"] ["self", "at"] (defScope s_Meetings_front) := ⟨rfl, rfl, rfl, by decide +kernel, rfl, by decide +kernel, by decide +kernel⟩
theorem ok_Meetings_front (T : Hd K mg) : MOk P w K mg base 1 (He.ga K "Meetings") "front" ["self", "at"] (spFront K) := by
  refine mkM T 49 114 122 rfl rfl rfl sc_Meetings_front (fun _ _ _ _ _ _ us hl => match us, hl with | [_, _], _ => rfl) (fun vs H Q E h => ?_) (fun cdv A outer s H vs Q E hr h => ?_)
  · obtain ⟨c, S, LA, G, D, ls, bw, gone, kvs, lat, i, rfl, _⟩ := h; rfl
  · obtain ⟨c, S, LA, G, D, ls, bw, gone, kvs, lat, i, rfl, hM, hl, hi, hg, q⟩ := h
    refine ⟨_, (pss_one (ps_ret (pe_ix ix_tup (pe_ix ix_tup (pe_fld (pv 0) rfl) (pv 1) (fun _ _ => rfl)) (pe_ix ix_list (pe_fld (pv 0) rfl) (pv 1) (fun _ _ => rfl)) (fun _ _ => rfl)))), ?_⟩
    obtain ⟨dx, hS⟩ := hM.hp
    obtain ⟨vs, hv, hvl, hv2⟩ := id hM.hL
    obtain ⟨a, e1, e2⟩ := hv2 i hi
    refine ⟨_, rfl, _, _, _, _, _, rfl, hS, T.c_Meetings, T.n_Meetings_lines, rfl, _, rfl, LA, _, _, _, rfl, rfl, SqT.of hv, atI_nat e1, ?_⟩
    refine ⟨_, rfl, _, _, _, _, _, rfl, hS, T.c_Meetings, T.n_Meetings_gone, rfl, _, rfl, G, _, _, _, rfl, rfl, SqL.of hM.hG, vL_at (by omega), ?_⟩
    exact ⟨a, _, _, _, rfl, rfl, SqT.of e2, vL_at hg, q⟩
theorem sc_Meetings_met : FnScope ["self", "one", "other"] ["self", "one", "other"] (defScope s_Meetings_met) := ⟨rfl, rfl, rfl, by decide +kernel, rfl, by decide +kernel, by decide +kernel⟩
theorem ok_Meetings_met (T : Hd K mg) : MOk P w K mg base 6 (He.ga K "Meetings") "met" ["self", "one", "other"] (spMet K) := by
  refine mkM T 50 114 123 rfl rfl rfl sc_Meetings_met (fun _ _ _ _ _ _ us hl => match us, hl with | [_, _, _], _ => rfl) (fun vs H Q E h => ?_) (fun cdv A outer s H vs Q E hr h => ?_)
  · obtain ⟨c, q, S, LA, G, D, ls, bw, gone, kvs, lat, a, b, rfl, _⟩ := h; rfl
  · obtain ⟨c, n, S, LA, G, D, ls, bw, gone, kvs, lat, a, b, rfl, ha, hM, hN, hia, hib, hn, q⟩ := h
    refine ⟨_, (pss_cons (ps_if (PW.pt (pw_or (pt_cmpR op_isN (pv 1) pe_non (nomark _)) (pw_or1 (pt_cmpR op_isN (pv 2) pe_non (nomark _)))))
        (pss_cons (ps_if (pt_cmpR op_isN (pv 1) pe_non (nomark _))
          (pss_one (ps_ret (pv 2)))
          pss_nil)
        (pss_one (ps_ret (pv 1))))
        pss_nil)
      (pss_cons (ps_if (pt_cmpR op_ne (pe_md (ok_Asker_less T) (hr.mono (by decide)) (pe_fld (pv 0) rfl) (pa_cons (pe_md (ok_Meetings_front T) (hr.mono (by decide)) (pv 0) (pa_cons (pv 2) pa_nil)) (pa_cons (pe_md (ok_Meetings_front T) (hr.mono (by decide)) (pv 0) (pa_cons (pv 1) pa_nil)) pa_nil))) (pe_fld (pv 0) rfl) (nomark _))
        (pss_one (ps_ret (pv 2)))
        pss_nil)
      (pss_one (ps_ret (pv 1))))), ?_⟩
    obtain ⟨dx, hS⟩ := hM.hp
    cases a with
    | none => exact ⟨_, rfl, rfl, true, rfl, _, rfl, rfl, true, rfl, _, rfl, q H (Fr.refl _ _) ha⟩
    | some i =>
      cases b with
      | none => exact ⟨_, rfl, rfl, false, rfl, _, rfl, rfl, true, rfl, _, rfl, rfl, false, rfl, _, rfl, q H (Fr.refl _ _) ha⟩
      | some j =>
        obtain ⟨i1, i2⟩ := hia i rfl
        obtain ⟨j1, j2⟩ := hib j rfl
        refine ⟨_, rfl, rfl, false, rfl, _, rfl, rfl, false, rfl, ?_⟩
        refine ⟨_, rfl, _, _, _, _, _, rfl, hS, T.c_Meetings, T.n_Meetings_asker, rfl, c.p, c.dx, _, rfl, ha.hp, rfl, ?_⟩
        refine ⟨_, rfl, S, dx, _, rfl, hS, rfl, _, rfl, c, S, LA, G, D, ls, bw, gone, kvs, lat, j, rfl, hM, hN.len, j1, j2, ?_⟩
        refine ⟨_, rfl, S, dx, _, rfl, hS, rfl, _, rfl, c, S, LA, G, D, ls, bw, gone, kvs, lat, i, rfl, hM, hN.len, i1, i2, ?_⟩
        refine ⟨c, n, _, _, rfl, ha, hN.lt j j1 _ (fr_mem j2), hN.lt i i1 _ (fr_mem i2), by have : metAsk (some i) (some j) = 1 := rfl; omega, fun H2 f2 ha2 => ?_⟩
        have hS2 := f2.keep S _ (by simpa using ha.neB hS) hS
        refine ⟨_, rfl, _, _, _, _, _, rfl, hS2, T.c_Meetings, T.n_Meetings_backwards, rfl, rfl, _, rfl, ?_⟩
        have fin := q H2 f2 ha2
        unfold met at fin
        dsimp only at fin
        rw [dec_bl, show (!(decide (c.rk (fr ls gone j) < c.rk (fr ls gone i)) == bw)) = (decide (c.rk (fr ls gone j) < c.rk (fr ls gone i)) != bw) from rfl]
        refine itB (fun yes => ?_) (fun no => ?_)
        · rw [if_pos yes] at fin
          exact ⟨_, rfl, fin⟩
        · rw [if_neg (by rw [no]; exact Bool.false_ne_true)] at fin
          exact ⟨_, rfl, fin⟩
end
end NR

set_option maxRecDepth 100000
set_option maxHeartbeats 4000000
/-! Meetings held; a number sent. -/
namespace NR
open PySem PySem.Spec PyProof.Rows L2 NM
def ky (s e : Nat) : List Key := [.inl (s : Int), .inl (e : Int)]
theorem ky_inj {s e x y : Nat} (h : ky x y = ky s e) : x = s ∧ y = e := by
  unfold ky at h
  injection h with h1 h2
  injection h2 with h2 _
  injection h1 with h1
  injection h2 with h2
  omega
/-- the stretches of the tree below one -/
inductive Sub : Nat → Nat → Nat → Nat → Prop
  | refl (s e : Nat) : Sub s e s e
  | left {s e x y : Nat} : ¬ e - s ≤ 1 → Sub s ((s + e) / 2) x y → Sub s e x y
  | right {s e x y : Nat} : ¬ e - s ≤ 1 → Sub ((s + e) / 2) e x y → Sub s e x y
theorem Sub.within {s e x y : Nat} (h : Sub s e x y) : s < e → s ≤ x ∧ x < y ∧ y ≤ e := by
  induction h with
  | refl s e => exact fun h => ⟨Nat.le_refl _, h, Nat.le_refl _⟩
  | left n _ ih => intro h; have := ih (by omega); omega
  | right n _ ih => intro h; have := ih (by omega); omega
theorem Sub.one {s e x y : Nat} (h : Sub s e x y) (n : e - s ≤ 1) : x = s ∧ y = e := by
  cases h with
  | refl => exact ⟨rfl, rfl⟩
  | left k _ => exact absurd n k
  | right k _ => exact absurd n k
def Sent (r : Nat → Nat) (bw : Bool) (ls : List (List Nat)) (gone : List Nat) (kvs : SentD) (s e : Nat) : Prop := ∀ x y, Sub s e x y → valV kvs (ky x y) = some (oV (win r bw ls gone x y))
def Off (r : Nat → Nat) (bw : Bool) (ls : List (List Nat)) (gone : List Nat) (kvs : SentD) (a s e : Nat) : Prop := ∀ x y, Sub s e x y → ¬ (x ≤ a ∧ a < y) → valV kvs (ky x y) = some (oV (win r bw ls gone x y))
theorem Sent.off {r : Nat → Nat} {bw : Bool} {ls : List (List Nat)} {gone gone' : List Nat} {kvs : SentD} {a s e : Nat} (h : Sent r bw ls gone kvs s e) (hs : s < e) (g : ∀ i, i ≠ a → gone.getD i 0 = gone'.getD i 0) : Off r bw ls gone' kvs a s e := fun x y hx hn => by
  have hw := hx.within hs
  rw [h x y hx, (win_congr (y - x) x y rfl hw.2.1 fun i i1 i2 => g i fun z => hn (by omega)).1]
def Fits : Nat → Nat → Prop
  | 0, _ => False
  | d + 1, m => m ≤ 2 ^ d
theorem Fits.half {d m k : Nat} (h : Fits (d + 1) m) (h2 : 2 ≤ m) (hk : 2 * k ≤ m + 1) : Fits d k := by
  have h : m ≤ 2 ^ d := h
  cases d with
  | zero => omega
  | succ d =>
    show k ≤ 2 ^ d
    rw [Nat.pow_succ] at h
    omega
theorem win_open {r : Nat → Nat} {bw : Bool} {ls : List (List Nat)} {gone : List Nat} : ∀ (k s e i : Nat), e - s = k → s < e → win r bw ls gone s e = some i → gone.getD i 0 ≠ (ls.getD i []).length := by
  intro k
  induction k using Nat.strongRecOn with
  | ind k ih =>
    intro s e i hk hs hi
    by_cases q : e - s ≤ 1
    · rw [win_one q] at hi
      unfold leaf at hi
      split at hi
      · cases hi
      · rename_i h
        have := Option.some.inj hi
        subst this
        exact h
    · rw [win_two q] at hi
      cases ea : win r bw ls gone s ((s + e) / 2) with
      | none =>
        rw [ea] at hi
        exact ih (e - (s + e) / 2) (by omega) ((s + e) / 2) e i rfl (by omega) hi
      | some x =>
        have hx := ih ((s + e) / 2 - s) (by omega) s ((s + e) / 2) x rfl (by omega) ea
        cases eb : win r bw ls gone ((s + e) / 2) e with
        | none =>
          rw [ea, eb] at hi
          have := Option.some.inj hi
          subst this
          exact hx
        | some y =>
          have hy := ih (e - (s + e) / 2) (by omega) ((s + e) / 2) e y rfl (by omega) eb
          rw [ea, eb] at hi
          unfold met at hi
          dsimp only at hi
          split at hi
          · have := Option.some.inj hi
            subst this
            exact hy
          · have := Option.some.inj hi
            subst this
            exact hx
theorem win_isIn {r : Nat → Nat} {bw : Bool} {ls : List (List Nat)} {gone : List Nat} {s e : Nat} (hs : s < e) (he : e ≤ ls.length) (hg : ∀ i, i < ls.length → gone.getD i 0 ≤ (ls.getD i []).length) : isIn ls gone (win r bw ls gone s e) := fun i hi => by
  have h1 := win_open _ s e i rfl hs hi
  have h2 := (win_congr (r := r) (bw := bw) (ls := ls) (gone := gone) (gone' := gone) _ s e rfl hs fun _ _ _ => rfl).2 i hi
  have := hg i (by omega)
  exact ⟨by omega, by omega⟩
def spHold (K : PySem.W.Frag) (d : Nat) : Sp := fun vs H Q _ => ∃ (c : AC) (q : Nat) (S LA G D : Addr) (ls : List (List Nat)) (bw : Bool) (gone : List Nat) (kvs : SentD) (lat : Option Nat) (s e : Nat) (at_ : Option Nat), vs = [.ref S, vI s, vI e, oV at_] ∧ AskAt K c q H ∧ MeetAt K c S LA G D ls bw gone kvs lat H ∧ MNum c ls gone ∧
  (∀ i, i < ls.length → gone.getD i 0 ≤ (ls.getD i []).length) ∧ s < e ∧ e ≤ ls.length ∧ ls.length ≤ 1000 ∧ Fits d (e - s) ∧ (∀ a, at_ = some a → s ≤ a ∧ a < e ∧ Off c.rk bw ls gone kvs a s e) ∧ q + hc c.rk bw ls gone at_ s e < 90000 ∧ kvs.length + 4 * (e - s) < 90000 ∧
  ∀ H' kvs', Fr [c.l, D] H H' → AskAt K c (q + hc c.rk bw ls gone at_ s e) H' → MeetAt K c S LA G D ls bw gone kvs' lat H' → Sent c.rk bw ls gone kvs' s e → (∀ x y, ¬ (s ≤ x ∧ y ≤ e) → valV kvs' (ky x y) = valV kvs (ky x y)) → kvs'.length + 1 ≤ kvs.length + 4 * (e - s) → Q .non H'
theorem MeetAt.putD {K : PySem.W.Frag} {c : AC} {S LA G D : Addr} {ls : List (List Nat)} {bw : Bool} {gone : List Nat} {kvs : SentD} {lat : Option Nat} {H : Hp} (h : MeetAt K c S LA G D ls bw gone kvs lat H) (kvs' : SentD) : MeetAt K c S LA G D ls bw gone kvs' lat (upd H D (.dT kvs')) := by
  obtain ⟨n1, n2, n3⟩ := h.ne
  obtain ⟨dx, e⟩ := h.hp
  have f : Fr [D] H (upd H D (.dT kvs')) := Fr.put1 h.hD rfl
  exact ⟨⟨dx, by rw [upd_ne n2]; exact e⟩, h.hL.keep f, by rw [upd_ne n3]; exact h.hG, upd_same, h.gl⟩
theorem AskAt.putD {K : PySem.W.Frag} {c : AC} {q : Nat} {H : Hp} {D : Addr} {kvs kvs' : SentD} (h : AskAt K c q H) (e : H D = some (.dT kvs)) : AskAt K c q (upd H D (.dT kvs')) := by
  obtain ⟨n1, n2⟩ := h.neD e
  exact h.keep (Fr.put1 e rfl) (by simpa using n1) (by simpa using n2)
theorem valV_other {kvs : SentD} {s e x y : Nat} {v : V} (h : ¬ (x = s ∧ y = e)) : valV (putK kvs (ky s e) v) (ky x y) = valV kvs (ky x y) := by
  rw [valV_put, if_neg fun z => h (ky_inj z)]
theorem valV_self {kvs : SentD} {s e : Nat} {v : V} : valV (putK kvs (ky s e) v) (ky s e) = some v := by rw [valV_put, if_pos rfl]
section
variable {P : Program} {w : World} {K : PySem.W.Frag} {mg : Str → Option Value} {base : Heap}
theorem sc_Meetings_hold : FnScope ["self", "start", "end", "at", "middle"] ["self", "start", "end", "at"] (defScope s_Meetings_hold) := ⟨rfl, rfl, rfl, by decide +kernel, rfl, by decide +kernel, by decide +kernel⟩
theorem hold_ok (T : Hd K mg) : ∀ d, MOk P w K mg base (7 + d) (He.ga K "Meetings") "hold" ["self", "start", "end", "at"] (spHold K d)
  | 0 => mkM T 51 114 124 rfl rfl rfl sc_Meetings_hold (fun _ _ _ _ _ _ us hl => match us, hl with | [_, _, _, _], _ => rfl) (fun vs H Q E h => by obtain ⟨_, _, _, _, _, _, _, _, _, _, _, _, _, _, _, _, _, _, _, _, _, _, z, _⟩ := h; exact False.elim z) (fun cdv A outer s H vs Q E hr h => by obtain ⟨_, _, _, _, _, _, _, _, _, _, _, _, _, _, _, _, _, _, _, _, _, _, z, _⟩ := h; exact False.elim z)
  | d + 1 => by
    have ih := hold_ok T d
    refine mkM T (k := 7 + d) 51 114 124 rfl rfl rfl sc_Meetings_hold (fun _ _ _ _ _ _ us hl => match us, hl with | [_, _, _, _], _ => rfl) (fun vs H Q E h => ?_) (fun cdv A outer s H vs Q E hr h => ?_)
    · obtain ⟨c, q, S, LA, G, D, ls, bw, gone, kvs, lat, s, e, at_, rfl, _⟩ := h; rfl
    · obtain ⟨c, n, S, LA, G, D, ls, bw, gone, kvs, lat, s, e, at_, rfl, ha, hM, hN, hg, hse, hel, hlen, fit, hat, hn, hk, q⟩ := h
      refine ⟨_, (pss_cons (ps_if (pt_cmpR op_eq (pe_op op_subN (pv 2) (pv 1)) pe_int (nomark _))
        (pss_cons (ps_dput (hu_of hr) (pe_fld (pv 0) rfl) (pe_tup (pa_cons (pv 1) (pa_cons (pv 2) pa_nil))) (pv 1) rfl)
        (pss_cons (ps_if (pt_cmpR op_eq (pe_ix ix_list (pe_fld (pv 0) rfl) (pv 1) (fun _ _ => rfl)) (pe_callB call_len_seq (by rfl) T.f_len (by decide +kernel) (pa_cons (pe_ix ix_tup (pe_fld (pv 0) rfl) (pv 1) (fun _ _ => rfl)) pa_nil)) (nomark _))
          (pss_one (ps_dput (hu_of hr) (pe_fld (pv 0) rfl) (pe_tup (pa_cons (pv 1) (pa_cons (pv 2) pa_nil))) pe_non rfl))
          pss_nil)
        (pss_one (ps_ret pe_non))))
        pss_nil)
      (pss_cons (ps_set (i := 4) sc_Meetings_hold.nd rfl (Or.inl rfl) (pe_op op_fdivNN (pe_op op_addN (pv 1) (pv 2)) pe_int))
      (Evl.pss_cut (ps_if (PW.pt (pw_or (pt_cmpR op_isN (pv 3) pe_non (nomark _)) (pw_or1 (pt_cmpR op_lt (pv 3) (pv 4) (nomark _)))))
        (pss_one (ps_expr (pe_md ih (hr.mono (by omega)) (pv 0) (pa_cons (pv 1) (pa_cons (pv 4) (pa_cons (pv 3) pa_nil))))))
        pss_nil)
      (Evl.pss_cut (ps_if (PW.pt (pw_or (pt_cmpR op_isN (pv 3) pe_non (nomark _)) (pw_or1 (pt_cmpR op_ge (pv 3) (pv 4) (nomark _)))))
        (pss_one (ps_expr (pe_md ih (hr.mono (by omega)) (pv 0) (pa_cons (pv 4) (pa_cons (pv 2) (pa_cons (pv 3) pa_nil))))))
        pss_nil)
      (pss_one (ps_dput (hu_of hr) (pe_fld (pv 0) rfl) (pe_tup (pa_cons (pv 1) (pa_cons (pv 2) pa_nil))) (pe_md (ok_Meetings_met T) (hr.mono (by omega)) (pv 0) (pa_cons (pe_dget (hu_of hr) (pe_fld (pv 0) rfl) (pe_tup (pa_cons (pv 1) (pa_cons (pv 4) pa_nil))) (fun _ _ => rfl)) (pa_cons (pe_dget (hu_of hr) (pe_fld (pv 0) rfl) (pe_tup (pa_cons (pv 4) (pa_cons (pv 2) pa_nil))) (fun _ _ => rfl)) pa_nil))) rfl)))))), ?_⟩
      obtain ⟨dx, hS⟩ := hM.hp
      obtain ⟨vs, hv, hvl, hv2⟩ := id hM.hL
      obtain ⟨la, l1, l2⟩ := hv2 s (by omega)
      refine ⟨_, rfl, _, rfl, e, s, rfl, rfl, by omega, rfl, _, rfl, itD (fun one => ?_) (fun one => ?_)⟩
      · have one : e - s ≤ 1 := by injection one with one; omega
        have he : e = s + 1 := by omega
        rw [hc_one one] at q
        refine ⟨_, rfl, _, rfl, _, _, _, _, _, rfl, hS, T.c_Meetings, T.n_Meetings_sent, rfl, _, rfl, _, rfl, by show 2 ≤ sizeLine; decide, fun t ht => ?_⟩
        have ft : Fr [] H (upd H t (.tup [vI s, vI e])) := Fr.new ht
        have hMt := hM.keep0 ft
        refine ⟨D, _, rfl, DPut.t (k := ky s e) hMt.hD upd_same (sz_lt (by omega)), ?_⟩
        have hM1 := hMt.putD (putK kvs (ky s e) (vI s))
        have ha1 := (ha.keep0 ft).putD (kvs' := putK kvs (ky s e) (vI s)) hMt.hD
        have f1 : Fr [c.l, D] H _ := (ft.mono (ys := [c.l, D]) (fun b hb => by cases hb)).trans (Fr.put (p := D) (o := .dT (putK kvs (ky s e) (vI s))) (by simp) hMt.hD rfl)
        have len1 := putK_len kvs (ky s e) (vI s)
        obtain ⟨dx1, hS1⟩ := hM1.hp
        obtain ⟨ws, hw, hwl, hw2⟩ := id hM1.hL
        obtain ⟨lb, k1, k2⟩ := hw2 s (by omega)
        refine ⟨_, rfl, _, _, _, _, _, rfl, hS1, T.c_Meetings, T.n_Meetings_gone, rfl, _, rfl, G, _, _, _, rfl, rfl, SqL.of hM1.hG, vL_at (by rw [← hN.len]; omega), ?_⟩
        refine ⟨_, rfl, _, _, _, _, _, rfl, hS1, T.c_Meetings, T.n_Meetings_lines, rfl, _, rfl, LA, _, _, _, rfl, rfl, SqT.of hw, atI_nat k1, lb, _, rfl, .inr (SqT.of k2), ?_⟩
        rw [vL_length]
        refine ⟨rfl, _, rfl, itD (fun eq => ?_) (fun neq => ?_)⟩
        · have eq : gone.getD s 0 = (ls.getD s []).length := by injection eq with eq; omega
          have ew : win c.rk bw ls gone s e = none := by rw [win_one one]; unfold leaf; rw [if_pos eq]
          refine ⟨_, rfl, _, _, _, _, _, rfl, hS1, T.c_Meetings, T.n_Meetings_sent, rfl, _, rfl, _, rfl, by show 2 ≤ sizeLine; decide, fun u hu => ?_⟩
          have fu := Fr.new (xs := []) (o := .tup [vI s, vI e]) hu
          have hMu := hM1.keep0 fu
          refine ⟨D, _, rfl, DPut.t (k := ky s e) hMu.hD upd_same (sz_lt (by omega)), ?_⟩
          have len2 := putK_len (putK kvs (ky s e) (vI s)) (ky s e) .non
          refine q _ _ (f1.trans ((fu.mono (ys := [c.l, D]) (fun b hb => by cases hb)).trans (Fr.put (by simp) hMu.hD rfl))) ((ha1.keep0 fu).putD hMu.hD) (hMu.putD _) (fun x y hx => ?_) (fun x y hx => ?_) (by omega)
          · obtain ⟨rfl, rfl⟩ := hx.one one
            rw [valV_self, ew]; rfl
          · rw [valV_other (by omega), valV_other (by omega)]
        · have neq : ¬ gone.getD s 0 = (ls.getD s []).length := fun z => neq (by rw [z])
          have ew : win c.rk bw ls gone s e = some s := by rw [win_one one]; unfold leaf; rw [if_neg neq]
          refine q _ _ f1 ha1 hM1 (fun x y hx => ?_) (fun x y hx => ?_) (by omega)
          · obtain ⟨rfl, rfl⟩ := hx.one one
            rw [valV_self, ew]; rfl
          · rw [valV_other (by omega)]
      · have one : ¬ e - s ≤ 1 := fun z => one (by rw [show e - s = 1 by omega]; rfl)
        refine ⟨_, rfl, _, rfl, s, e, rfl, rfl, s + e, 2, rfl, rfl, by decide, ?_⟩
        refine ⟨fun σ' H' => ∃ (q1 : Nat) (kvs1 : SentD), σ' = [some (.ref S), some (vI s), some (vI e), some (oV at_), some (vI ((s + e) / 2))] ∧ Fr [c.l, D] H H' ∧ AskAt K c q1 H' ∧ MeetAt K c S LA G D ls bw gone kvs1 lat H' ∧ Sent c.rk bw ls gone kvs1 s ((s + e) / 2) ∧ (∀ x y, ¬ (s ≤ x ∧ y ≤ (s + e) / 2) → valV kvs1 (ky x y) = valV kvs (ky x y)) ∧ kvs1.length + 1 ≤ kvs.length + 4 * ((s + e) / 2 - s) ∧ q1 = n + (if at_.all (fun a => decide (a < (s + e) / 2)) = true then hc c.rk bw ls gone at_ s ((s + e) / 2) else 0), ?_, ?_⟩
        · cases at_ with
          | none =>
            have ATE : (none : Option Nat).all (fun a => decide (a < (s + e) / 2)) = true := rfl
            have ATL : ∀ a, (none : Option Nat) = some a → s ≤ a ∧ a < (s + e) / 2 ∧ Off c.rk bw ls gone kvs a s ((s + e) / 2) := fun a z => nomatch z
            let AT : Option Nat := none
            refine ⟨_, rfl, rfl, true, rfl, ?_⟩
            refine ⟨_, rfl, S, dx, _, rfl, hS, rfl, _, rfl, _, rfl, _, rfl, c, n, S, LA, G, D, ls, bw, gone, kvs, lat, s, (s + e) / 2, AT, rfl, ha, hM, hN, hg, by omega, by omega, hlen, fit.half (by omega) (by omega), ATL, ?_, by omega, fun H2 kvs2 f2 ha2 hM2 z1 z2 z3 => ?_⟩
            · have := hn
              rw [hc_two one, if_pos ATE] at this
              change n + (hc c.rk bw ls gone AT s ((s + e) / 2) + _ + _) < 90000 at this
              omega
            · exact ⟨_, kvs2, rfl, f2, ha2, hM2, z1, z2, by omega, by rw [if_pos ATE]⟩
          | some a =>
            obtain ⟨a1, a2, a3⟩ := hat a rfl
            refine ⟨_, rfl, rfl, false, rfl, _, rfl, _, rfl, _, _, rfl, rfl, _, rfl, itD (fun lt => ?_) (fun nlt => ?_)⟩
            · have lt : a < (s + e) / 2 := by omega
              have ATE : (some a).all (fun a => decide (a < (s + e) / 2)) = true := decide_eq_true lt
              have ATL : ∀ b, some a = some b → s ≤ b ∧ b < (s + e) / 2 ∧ Off c.rk bw ls gone kvs b s ((s + e) / 2) := fun b z => by
                have := Option.some.inj z
                subst this
                exact ⟨a1, lt, fun x y hx hx2 => a3 x y (.left one hx) hx2⟩
              let AT : Option Nat := some a
              refine ⟨_, rfl, S, dx, _, rfl, hS, rfl, _, rfl, _, rfl, _, rfl, c, n, S, LA, G, D, ls, bw, gone, kvs, lat, s, (s + e) / 2, AT, rfl, ha, hM, hN, hg, by omega, by omega, hlen, fit.half (by omega) (by omega), ATL, ?_, by omega, fun H2 kvs2 f2 ha2 hM2 z1 z2 z3 => ?_⟩
              · have := hn
                rw [hc_two one, if_pos ATE] at this
                change n + (hc c.rk bw ls gone AT s ((s + e) / 2) + _ + _) < 90000 at this
                omega
              · exact ⟨_, kvs2, rfl, f2, ha2, hM2, z1, z2, by omega, by rw [if_pos ATE]⟩
            · have nlt : ¬ a < (s + e) / 2 := by omega
              refine ⟨n, kvs, rfl, Fr.refl _ _, ha, hM, fun x y hx => ?_, fun _ _ _ => rfl, by omega, ?_⟩
              · have := hx.within (by omega)
                exact a3 x y (.left one hx) (by omega)
              · rw [if_neg]
                · rfl
                · show ¬ decide (a < (s + e) / 2) = true
                  rw [decide_eq_false nlt]; exact Bool.false_ne_true
        · rintro σ' H1 ⟨q1, kvs1, rfl, f1, ha1, hM1, s1, s2, s3, hq1⟩
          obtain ⟨dx, hS1⟩ := hM1.hp
          refine ⟨fun σ' H' => ∃ (q2 : Nat) (kvs2 : SentD), σ' = [some (.ref S), some (vI s), some (vI e), some (oV at_), some (vI ((s + e) / 2))] ∧ Fr [c.l, D] H H' ∧ AskAt K c q2 H' ∧ MeetAt K c S LA G D ls bw gone kvs2 lat H' ∧ Sent c.rk bw ls gone kvs2 s ((s + e) / 2) ∧ Sent c.rk bw ls gone kvs2 ((s + e) / 2) e ∧ (∀ x y, ¬ (s ≤ x ∧ y ≤ e) → valV kvs2 (ky x y) = valV kvs (ky x y)) ∧ kvs2.length + 2 ≤ kvs.length + 4 * (e - s) ∧ q2 = q1 + (if at_.all (fun a => decide ((s + e) / 2 ≤ a)) = true then hc c.rk bw ls gone at_ ((s + e) / 2) e else 0), ?_, ?_⟩
          · cases at_ with
            | none =>
              have ATE : (none : Option Nat).all (fun a => decide ((s + e) / 2 ≤ a)) = true := rfl
              have ATL : ∀ a, (none : Option Nat) = some a → (s + e) / 2 ≤ a ∧ a < e ∧ Off c.rk bw ls gone kvs1 a ((s + e) / 2) e := fun a z => nomatch z
              let AT : Option Nat := none
              refine ⟨_, rfl, rfl, true, rfl, ?_⟩
              refine ⟨_, rfl, S, dx, _, rfl, hS1, rfl, _, rfl, _, rfl, _, rfl, c, q1, S, LA, G, D, ls, bw, gone, kvs1, lat, (s + e) / 2, e, AT, rfl, ha1, hM1, hN, hg, by omega, by omega, hlen, fit.half (by omega) (by omega), ATL, ?_, by omega, fun H2 kvs2 f2 ha2 hM2 z1 z2 z3 => ?_⟩
              · have := hn
                rw [hc_two one, if_pos ATE] at this
                change n + (_ + hc c.rk bw ls gone AT ((s + e) / 2) e + _) < 90000 at this
                omega
              · refine ⟨_, kvs2, rfl, f1.trans f2, ha2, hM2, fun x y hx => ?_, z1, fun x y hx => ?_, by omega, by rw [if_pos ATE]⟩
                · have := hx.within (by omega)
                  rw [z2 x y (by omega)]
                  exact s1 x y hx
                · rw [z2 x y (by omega)]
                  exact s2 x y (by omega)
            | some a =>
              obtain ⟨a1, a2, a3⟩ := hat a rfl
              refine ⟨_, rfl, rfl, false, rfl, _, rfl, _, rfl, _, _, rfl, rfl, _, rfl, itD (fun ge => ?_) (fun nge => ?_)⟩
              · have ge : (s + e) / 2 ≤ a := by omega
                have ATE : (some a).all (fun a => decide ((s + e) / 2 ≤ a)) = true := decide_eq_true ge
                have ATL : ∀ b, some a = some b → (s + e) / 2 ≤ b ∧ b < e ∧ Off c.rk bw ls gone kvs1 b ((s + e) / 2) e := fun b z => by
                  have := Option.some.inj z
                  subst this
                  refine ⟨ge, a2, fun x y hx hx2 => ?_⟩
                  have := hx.within (by omega)
                  rw [s2 x y (by omega)]
                  exact a3 x y (.right one hx) hx2
                let AT : Option Nat := some a
                refine ⟨_, rfl, S, dx, _, rfl, hS1, rfl, _, rfl, _, rfl, _, rfl, c, q1, S, LA, G, D, ls, bw, gone, kvs1, lat, (s + e) / 2, e, AT, rfl, ha1, hM1, hN, hg, by omega, by omega, hlen, fit.half (by omega) (by omega), ATL, ?_, by omega, fun H2 kvs2 f2 ha2 hM2 z1 z2 z3 => ?_⟩
                · have := hn
                  rw [hc_two one, if_pos ATE] at this
                  change n + (_ + hc c.rk bw ls gone AT ((s + e) / 2) e + _) < 90000 at this
                  omega
                · refine ⟨_, kvs2, rfl, f1.trans f2, ha2, hM2, fun x y hx => ?_, z1, fun x y hx => ?_, by omega, by rw [if_pos ATE]⟩
                  · have := hx.within (by omega)
                    rw [z2 x y (by omega)]
                    exact s1 x y hx
                  · rw [z2 x y (by omega)]
                    exact s2 x y (by omega)
              · have nge : ¬ (s + e) / 2 ≤ a := by omega
                refine ⟨q1, kvs1, rfl, f1, ha1, hM1, s1, fun x y hx => ?_, fun x y hx => s2 x y (by omega), by omega, ?_⟩
                · have := hx.within (by omega)
                  rw [s2 x y (by omega)]
                  exact a3 x y (.right one hx) (by omega)
                · rw [if_neg]
                  · rfl
                  · show ¬ decide ((s + e) / 2 ≤ a) = true
                    rw [decide_eq_false nge]; exact Bool.false_ne_true
          · rintro σ' H2 ⟨q2, kvs2, rfl, f2, ha2, hM2, t1, t2, t3, t4, hq2⟩
            obtain ⟨dx, hS2⟩ := hM2.hp
            rw [hc_two one] at q hn
            have g1 := t1 _ _ (.refl s ((s + e) / 2))
            have g2 := t2 _ _ (.refl ((s + e) / 2) e)
            refine ⟨_, rfl, S, dx, _, rfl, hS2, rfl, ?_⟩
            refine ⟨_, rfl, _, _, _, _, _, rfl, hS2, T.c_Meetings, T.n_Meetings_sent, rfl, _, rfl, _, rfl, by show 2 ≤ sizeLine; decide, fun t ht => ?_⟩
            have ft : Fr [] H2 (upd H2 t (.tup [vI s, vI ((s + e) / 2)])) := Fr.new ht
            have hMt := hM2.keep0 ft
            refine ⟨D, oV (win c.rk bw ls gone s ((s + e) / 2)), rfl, by rw [← g1]; exact DGet.t (k := ky s ((s + e) / 2)) hMt.hD upd_same, ?_⟩
            have hSt := ft.keep S _ (by simp) hS2
            refine ⟨_, rfl, _, _, _, _, _, rfl, hSt, T.c_Meetings, T.n_Meetings_sent, rfl, _, rfl, _, rfl, by show 2 ≤ sizeLine; decide, fun u hu => ?_⟩
            have fu := ft.trans (Fr.new (o := .tup [vI ((s + e) / 2), vI e]) hu)
            have hMu := hM2.keep0 fu
            refine ⟨D, oV (win c.rk bw ls gone ((s + e) / 2) e), rfl, by rw [← g2]; exact DGet.t (k := ky ((s + e) / 2) e) hMu.hD upd_same, ?_⟩
            refine ⟨c, q2, S, LA, G, D, ls, bw, gone, kvs2, lat, win c.rk bw ls gone s ((s + e) / 2), win c.rk bw ls gone ((s + e) / 2) e, rfl, ha2.keep0 fu, hMu, hN, win_isIn (by omega) (by omega) hg, win_isIn (by omega) (by omega) hg, by omega, fun H3 f3 ha3 => ?_⟩
            have hM3 := hMu.keepA (ha2.keep0 fu) f3
            obtain ⟨dx3, hS3⟩ := hM3.hp
            refine ⟨_, rfl, _, _, _, _, _, rfl, hS3, T.c_Meetings, T.n_Meetings_sent, rfl, _, rfl, _, rfl, by show 2 ≤ sizeLine; decide, fun v hv => ?_⟩
            have fv := Fr.new (xs := []) (o := .tup [vI s, vI e]) hv
            have hMv := hM3.keep0 fv
            refine ⟨D, _, rfl, DPut.t (k := ky s e) hMv.hD upd_same (sz_lt (by omega)), ?_⟩
            rw [← win_two one]
            have len := putK_len kvs2 (ky s e) (oV (win c.rk bw ls gone s e))
            refine q _ _ ((f2.trans ((fu.mono (fun b hb => by cases hb)).trans ((f3.mono (by simp)).trans (fv.mono (fun b hb => by cases hb))))).trans (Fr.put (by simp) hMv.hD rfl)) ?_ (hMv.putD _) (fun x y hx => ?_) (fun x y hx => ?_) (by omega)
            · have := (ha3.keep0 fv).putD (kvs' := putK kvs2 (ky s e) (oV (win c.rk bw ls gone s e))) hMv.hD
              exact Eq.mp (congrArg (fun z => AskAt K c z _) (by omega)) this
            · cases hx with
              | refl => exact valV_self
              | left _ hx =>
                have := hx.within (by omega)
                rw [valV_other (by omega)]
                exact t1 x y hx
              | right _ hx =>
                have := hx.within (by omega)
                rw [valV_other (by omega)]
                exact t2 x y hx
            · rw [valV_other (by omega)]
              exact t3 x y hx
end
end NR

set_option maxRecDepth 100000
set_option maxHeartbeats 4000000
/-! A number sent; numbers told one by one. -/
namespace NR
open PySem PySem.Spec PyProof.Rows L2 NM
def MGo (K : PySem.W.Frag) (c : AC) (S LA G D : Addr) (ls : List (List Nat)) (bw : Bool) (gone : List Nat) (lat : Option Nat) (T : List Nat) (B : Nat) (H : Hp) : Prop :=
  ∃ kvs, MeetAt K c S LA G D ls bw gone kvs lat H ∧ MNum c ls gone ∧ NM.MOk c.rk bw ls gone T ∧ kvs.length ≤ B ∧ ∀ a, lat = some a → a < ls.length ∧ Off c.rk bw ls gone kvs a 0 ls.length
def spSend (K : PySem.W.Frag) : Sp := fun vs H Q _ => ∃ (c : AC) (q : Nat) (S LA G D : Addr) (ls : List (List Nat)) (bw : Bool) (gone : List Nat) (lat : Option Nat) (t : Nat) (T : List Nat) (B : Nat), vs = [.ref S] ∧ AskAt K c q H ∧ MGo K c S LA G D ls bw gone lat (t :: T) B H ∧ ls.length ≤ 64 ∧ q + hc c.rk bw ls gone lat 0 ls.length < 90000 ∧ B + 256 < 90000 ∧
  ∀ i H', i < ls.length → gone.getD i 0 < (ls.getD i []).length → Fr [c.l, S, G, D] H H' → AskAt K c (q + hc c.rk bw ls gone lat 0 ls.length) H' → MGo K c S LA G D ls bw (gone.set i (gone.getD i 0 + 1)) (some i) T (B + 256) H' → Q (vI t) H'
theorem AskAt.putI {K : PySem.W.Frag} {c : AC} {q : Nat} {H : Hp} (h : AskAt K c q H) {S C dx : Addr} {fs fs' : List (Str × V)} (e : H S = some (.ins C dx fs)) (n : fs.length ≠ 5) : AskAt K c q (upd H S (.ins C dx fs')) :=
  h.keep (Fr.put1 e rfl) (by simpa using h.neI e n) (by simpa using (h.neB e).symm)
theorem MeetAt.lat {K : PySem.W.Frag} {c : AC} {S LA G D : Addr} {ls : List (List Nat)} {bw : Bool} {gone : List Nat} {kvs : SentD} {lat : Option Nat} {H : Hp} {dx : Addr} {fs' : List (Str × V)} (h : MeetAt K c S LA G D ls bw gone kvs lat H)
    (e : H S = some (.ins (He.ga K "Meetings") dx [("asker", .ref c.p), ("lines", .ref LA), ("backwards", .bl bw), ("gone", .ref G), ("sent", .ref D), ("latest", oV lat)])) (i : Option Nat) (ef : fs' = ([("asker", .ref c.p), ("lines", .ref LA), ("backwards", .bl bw), ("gone", .ref G), ("sent", .ref D), ("latest", oV i)] : List (Str × V))) :
    MeetAt K c S LA G D ls bw gone kvs i (upd H S (.ins (He.ga K "Meetings") dx fs')) := by
  obtain ⟨n1, n2, n3⟩ := h.ne
  subst ef
  exact ⟨⟨dx, upd_same⟩, h.hL.keep (Fr.put1 e rfl), by rw [upd_ne n1.symm]; exact h.hG, by rw [upd_ne n2.symm]; exact h.hD, h.gl⟩
theorem MeetAt.setG {K : PySem.W.Frag} {c : AC} {S LA G D : Addr} {ls : List (List Nat)} {bw : Bool} {gone : List Nat} {kvs : SentD} {lat : Option Nat} {H : Hp} (h : MeetAt K c S LA G D ls bw gone kvs lat H) (gone' : List Nat) : MeetAt K c S LA G D ls bw gone' kvs lat (upd H G (.lst (vL gone'))) := by
  obtain ⟨n1, n2, n3⟩ := h.ne
  obtain ⟨dx, e⟩ := h.hp
  exact ⟨⟨dx, by rw [upd_ne n1]; exact e⟩, h.hL.keep (Fr.put1 h.hG rfl), upd_same, by rw [upd_ne n3.symm]; exact h.hD, h.gl⟩
section
variable {P : Program} {w : World} {K : PySem.W.Frag} {mg : Str → Option Value} {base : Heap}
theorem sc_Meetings_send : FnScope ["self", "number"] ["self"] (defScope s_Meetings_send) := ⟨rfl, rfl, rfl, by decide +kernel, rfl, by decide +kernel, by decide +kernel⟩
theorem ok_Meetings_send (T : Hd K mg) : MOk P w K mg base 15 (He.ga K "Meetings") "send" ["self"] (spSend K) := by
  refine mkM T 52 114 125 rfl rfl rfl sc_Meetings_send (fun _ _ _ _ _ _ us hl => match us, hl with | [_], _ => rfl) (fun vs H Q E h => ?_) (fun cdv A outer s H vs Q E hr h => ?_)
  · obtain ⟨c, q, S, LA, G, D, ls, bw, gone, lat, t, U, B, rfl, _⟩ := h; rfl
  · obtain ⟨c, n, S, LA, G, D, ls, bw, gone, lat, t, U, B, rfl, ha, ⟨kvs, hM, hN, hO, hB, hoff⟩, h64, hn, hB2, q⟩ := h
    refine ⟨_, (pss_cons (ps_expr (pe_md (hold_ok T 7) (hr.mono (by decide)) (pv 0) (pa_cons pe_int (pa_cons (pe_callB call_len_seq (by rfl) T.f_len (by decide +kernel) (pa_cons (pe_fld (pv 0) rfl) pa_nil)) (pa_cons (pe_fld (pv 0) rfl) pa_nil)))))
      (pss_cons (ps_fld (pv 0) (pe_dget (hu_of hr) (pe_fld (pv 0) rfl) (pe_tup (pa_cons pe_int (pa_cons (pe_callB call_len_seq (by rfl) T.f_len (by decide +kernel) (pa_cons (pe_fld (pv 0) rfl) pa_nil)) pa_nil))) (fun _ _ => rfl)) rfl)
      (pss_cons (ps_set (i := 1) sc_Meetings_send.nd rfl (Or.inl rfl) (pe_md (ok_Meetings_front T) (hr.mono (by decide)) (pv 0) (pa_cons (pe_fld (pv 0) rfl) pa_nil)))
      (pss_cons (ps_augS (pe_fld (pv 0) rfl) (pe_fld (pv 0) rfl) getL pe_int ip_add set_list)
      (pss_one (ps_ret (pv 1))))))), ?_⟩
    obtain ⟨i, wi, il, ig, it, hO2⟩ := hO.send
    obtain ⟨dx, hS⟩ := hM.hp
    obtain ⟨vs, hv, hvl, hv2⟩ := id hM.hL
    have lpos : 0 < ls.length := by omega
    refine ⟨_, rfl, S, dx, _, rfl, hS, rfl, _, rfl, _, _, _, _, _, rfl, hS, T.c_Meetings, T.n_Meetings_lines, rfl, LA, _, rfl, .inr (SqT.of hv), ?_⟩
    rw [hvl]
    refine ⟨_, rfl, _, _, _, _, _, rfl, hS, T.c_Meetings, T.n_Meetings_latest, rfl, ?_⟩
    refine ⟨c, n, S, LA, G, D, ls, bw, gone, kvs, lat, 0, ls.length, lat, rfl, ha, hM, hN, hO.le, lpos, Nat.le_refl _, by omega, (show ls.length - 0 ≤ 2 ^ 6 by omega), fun a ea => ⟨Nat.zero_le _, hoff a ea⟩, hn, by omega, fun H1 kvs1 f1 ha1 hM1 s1 _ s3 => ?_⟩
    obtain ⟨dx1, hS1⟩ := hM1.hp
    obtain ⟨vs1, hv1, hvl1, hv21⟩ := id hM1.hL
    have g1 := s1 _ _ (.refl 0 ls.length)
    rw [wi] at g1
    refine ⟨_, rfl, _, _, _, _, _, rfl, hS1, T.c_Meetings, T.n_Meetings_sent, rfl, _, rfl, _, _, _, _, _, rfl, hS1, T.c_Meetings, T.n_Meetings_lines, rfl, LA, _, rfl, .inr (SqT.of hv1), ?_⟩
    rw [hvl1]
    refine ⟨by show 2 ≤ sizeLine; decide, fun tp ht => ?_⟩
    have ft : Fr [] H1 (upd H1 tp (.tup [vI 0, vI ls.length])) := Fr.new ht
    have hMt := hM1.keep0 ft
    have hat := ha1.keep0 ft
    have hSt := ft.keep S _ (by simp) hS1
    refine ⟨D, oV (some i), rfl, by rw [← g1]; exact DGet.t (k := ky 0 ls.length) hMt.hD upd_same, _, rfl, S, _, dx1, _, rfl, hSt, T.c_Meetings, T.n_Meetings_latest, by show 6 < 1000; decide, ?_⟩
    have hM2 := hMt.lat (fs' := putF "latest" (oV (some i)) [("asker", .ref c.p), ("lines", .ref LA), ("backwards", .bl bw), ("gone", .ref G), ("sent", .ref D), ("latest", oV lat)]) hSt (some i) rfl
    have ha2 := hat.putI (fs' := putF "latest" (oV (some i)) [("asker", .ref c.p), ("lines", .ref LA), ("backwards", .bl bw), ("gone", .ref G), ("sent", .ref D), ("latest", oV lat)]) hSt (by show (6 : Nat) ≠ 5; decide)
    have f2 : Fr [c.l, S, G, D] H _ := (f1.mono (by simp)).trans ((ft.mono (fun b hb => by cases hb)).trans (Fr.put (p := S) (o := .ins (He.ga K "Meetings") dx1 (putF "latest" (oV (some i)) [("asker", .ref c.p), ("lines", .ref LA), ("backwards", .bl bw), ("gone", .ref G), ("sent", .ref D), ("latest", oV lat)])) (by simp) hSt rfl))
    generalize hH2 : upd (upd H1 tp (.tup [vI 0, vI ls.length])) S (.ins (He.ga K "Meetings") dx1 (putF "latest" (oV (some i)) [("asker", .ref c.p), ("lines", .ref LA), ("backwards", .bl bw), ("gone", .ref G), ("sent", .ref D), ("latest", oV lat)])) = H2 at f2 ha2 hM2
    obtain ⟨dx2, hS2⟩ := hM2.hp
    refine ⟨_, rfl, S, dx2, _, rfl, hS2, rfl, _, rfl, _, _, _, _, _, rfl, hS2, T.c_Meetings, T.n_Meetings_latest, rfl, ?_⟩
    refine ⟨c, S, LA, G, D, ls, bw, gone, kvs1, some i, i, rfl, hM2, hN.len, il, ig, ?_⟩
    refine ⟨_, rfl, _, _, _, _, _, rfl, hS2, T.c_Meetings, T.n_Meetings_gone, rfl, _, rfl, _, _, _, _, _, rfl, hS2, T.c_Meetings, T.n_Meetings_latest, rfl, ?_⟩
    have igl : i < gone.length := by rw [← hN.len]; exact il
    refine ⟨G, _, i, _, rfl, rfl, SqL.of hM2.hG, vL_get igl, _, _, rfl, rfl, G, _, _, _, rfl, rfl, hM2.hG, ixN_nat (by rw [vL_length]; exact igl), ?_⟩
    rw [show (vL gone).set i (V.int ((gone.getD i 0 : Nat) + 1)) = vL (gone.set i (gone.getD i 0 + 1)) from vL_set gone i (gone.getD i 0 + 1)]
    refine ⟨_, rfl, ?_⟩
    rw [it]
    refine q i _ il ig (f2.trans (Fr.put (p := G) (by simp) hM2.hG rfl)) (ha2.putL hM2.hG hM2.gl) ⟨kvs1, hM2.setG _, ⟨hN.lt, by rw [List.length_set]; exact hN.len⟩, hO2, by omega, fun a ea => ?_⟩
    have := Option.some.inj ea
    subst this
    exact ⟨il, s1.off lpos fun j hj => by rw [gone_set igl, if_neg (fun z => hj z.symm)]⟩
end
/-! ### told one by one -/
def perS (sg : Bool) (n : Nat) : Nat := if sg = true then twos n - 1 else twos n
def tellB (n p k : Nat) : Nat := if k = 0 then 0 else (n - 1) + (k - 1) * p
theorem tellB_succ (n p k : Nat) (h : 0 < k) : tellB n p (k + 1) = tellB n p k + p := by
  unfold tellB
  rw [if_neg (by omega), if_neg (by omega)]
  obtain ⟨j, rfl⟩ : ∃ j, k = j + 1 := ⟨k - 1, by omega⟩
  rw [Nat.add_sub_cancel, Nat.add_sub_cancel, Nat.succ_mul]
  omega
/-- the first k of U are told, L holds them -/
structure Told (K : PySem.W.Frag) (c : AC) (S LA G D L : Addr) (ls : List (List Nat)) (bw : Bool) (U : List Nat) (q : Nat) (sg : Bool) (k : Nat) (H0 H : Hp) : Prop where
  go : ∃ (gone : List Nat) (lat : Option Nat) (q1 : Nat), AskAt K c q1 H ∧ MGo K c S LA G D ls bw gone lat (U.drop k) (256 * k) H ∧ q1 ≤ q + tellB ls.length (perS sg ls.length) k ∧ (k = 0 → lat = none) ∧ (0 < k → ∃ a, lat = some a ∧ a < ls.length ∧ (sg = true → leaf ls gone a = none))
  fr : Fr [c.l, S, G, D, L] H0 H
  hl : H L = some (.lst (vL (U.take k)))
theorem MGo.keep {K : PySem.W.Frag} {c : AC} {S LA G D : Addr} {ls : List (List Nat)} {bw : Bool} {gone : List Nat} {lat : Option Nat} {T : List Nat} {B : Nat} {H H' : Hp} {xs : List Addr} (h : MGo K c S LA G D ls bw gone lat T B H) (f : Fr xs H H') (n1 : S ∉ xs) (n2 : G ∉ xs) (n3 : D ∉ xs) : MGo K c S LA G D ls bw gone lat T B H' := by
  obtain ⟨kvs, h1, h2⟩ := h
  exact ⟨kvs, h1.keep f n1 n2 n3, h2⟩
theorem twos64 {n : Nat} (h : n ≤ 64) : twos n ≤ 6 := twos_least (by omega)
theorem Told.send {K : PySem.W.Frag} {c : AC} {S LA G D L : Addr} {ls : List (List Nat)} {bw : Bool} {U : List Nat} {q : Nat} {sg : Bool} {k : Nat} {H0 H : Hp} (h : Told K c S LA G D L ls bw U q sg k H0 H) (hk : k < U.length) (h64 : ls.length ≤ 64) (hU : U.length ≤ 64) (hq : q ≤ 1000)
    (hsg : sg = true → ∀ i, i < ls.length → (ls.getD i []).length ≤ 1) (nG : G ≠ L) (nL : L ≠ c.l) {Q : VK} {E : XK}
    (next : ∀ H2, H2 L = some (.lst (vL (U.take k))) → Told K c S LA G D L ls bw U q sg (k + 1) H0 (upd H2 L (.lst (vL (U.take k) ++ [vI (U.getD k 0)]))) → Q (vI (U.getD k 0)) H2) : spSend K [.ref S] H Q E := by
  obtain ⟨gone, lat, q1, ha, hM, hq1, l0, l1⟩ := h.go
  have hd : U.drop k = U.getD k 0 :: U.drop (k + 1) := drop_get hk
  rw [hd] at hM
  obtain ⟨i0, _, hi0, _⟩ := (hM.elim fun kvs z => z.2.2.1).send
  have cost : q1 + hc c.rk bw ls gone lat 0 ls.length ≤ q + tellB ls.length (perS sg ls.length) (k + 1) := by
    by_cases z : k = 0
    · subst z
      rw [l0 rfl]
      have := hc_all c.rk bw ls gone ls.length 0 ls.length rfl (by omega)
      have e1 : tellB ls.length (perS sg ls.length) 0 = 0 := rfl
      have e2 : tellB ls.length (perS sg ls.length) (0 + 1) = ls.length - 1 := by unfold tellB; rw [if_neg (by omega)]; simp
      omega
    · obtain ⟨a, ea, al, ae⟩ := l1 (by omega)
      rw [ea, tellB_succ _ _ _ (by omega)]
      have : hc c.rk bw ls gone (some a) 0 ls.length ≤ perS sg ls.length := by
        unfold perS
        by_cases s : sg = true
        · rw [if_pos s]
          have := hc_end c.rk bw ls gone a (ae s) _ 0 ls.length rfl (Nat.zero_le _) al
          rw [Nat.sub_zero] at this
          rcases this with t | ⟨t1, t2⟩ <;> omega
        · rw [if_neg s]
          exact hc_way c.rk bw ls gone a _ 0 ls.length rfl (Nat.zero_le _) al
      omega
  have bnd : tellB ls.length (perS sg ls.length) (k + 1) ≤ 64 + 64 * 6 := by
    unfold tellB
    rw [if_neg (by omega), Nat.add_sub_cancel]
    have h1 : perS sg ls.length ≤ 6 := by
      have := twos64 h64
      unfold perS
      split <;> omega
    have h2 : k * perS sg ls.length ≤ 64 * 6 := Nat.mul_le_mul (by omega) h1
    omega
  refine ⟨c, q1, S, LA, G, D, ls, bw, gone, lat, U.getD k 0, U.drop (k + 1), 256 * k, rfl, ha, hM, h64, by omega, by omega, fun i H2 il ig f2 ha2 hM2 => ?_⟩
  obtain ⟨kvs, m1, m2⟩ := id hM
  obtain ⟨dx, hS⟩ := m1.hp
  have nS : S ≠ L := ne_of hS h.hl (by intro z; cases z)
  have nD : D ≠ L := ne_of m1.hD h.hl (by intro z; cases z)
  have hL2 : H2 L = some (.lst (vL (U.take k))) := f2.keep L _ (by simp [nL, nS.symm, nG.symm, nD.symm]) h.hl
  refine next H2 hL2 ⟨⟨gone.set i (gone.getD i 0 + 1), some i, _, ha2.putL hL2 nL, ?_, cost, (fun z => (nomatch z)), fun _ => ⟨i, rfl, il, fun s => ?_⟩⟩, ?_, ?_⟩
  · have := hM2.keep (Fr.put1 (o := .lst (vL (U.take k) ++ [vI (U.getD k 0)])) hL2 rfl) (by simpa using nS) (by simpa using nG) (by simpa using nD)
    rw [show 256 * (k + 1) = 256 * k + 256 by omega]
    exact this
  · have := hsg s i il
    have hgl : i < gone.length := by rw [← m2.1.len]; exact il
    unfold leaf
    rw [gone_set hgl, if_pos rfl, if_pos (by omega)]
  · exact (h.fr.trans (f2.mono (by simp))).trans (Fr.put (by simp) hL2 rfl)
  · rw [upd_same, show [vI (U.getD k 0)] = vL [U.getD k 0] from rfl, vL_append]
    congr 3
    rw [List.take_add_one, List.getElem?_eq_getElem hk, getD_get hk]
    rfl
/-- nothing is told yet -/
theorem Told.start {K : PySem.W.Frag} {c : AC} {S LA G D L : Addr} {ls : List (List Nat)} {bw : Bool} {U : List Nat} {q : Nat} {sg : Bool} {H0 H : Hp} (ha : AskAt K c q H) (hM : MeetAt K c S LA G D ls bw (List.replicate ls.length 0) [] none H) (hlt : ∀ i, i < ls.length → ∀ y ∈ ls.getD i [], y < c.n)
    (hO : NM.MOk c.rk bw ls (List.replicate ls.length 0) U) (hL : H L = none) (f : Fr [S] H0 H) : Told K c S LA G D L ls bw U q sg 0 H0 (upd H L (.lst [])) := by
  have fL : Fr [] H (upd H L (.lst [])) := Fr.new hL
  exact ⟨⟨_, none, q, ha.keep0 fL, ⟨[], hM.keep0 fL, ⟨hlt, by rw [List.length_replicate]⟩, hO, Nat.zero_le _, fun a z => nomatch z⟩, by omega, fun _ => rfl, fun z => absurd z (Nat.lt_irrefl _)⟩, (f.mono (by simp)).trans (Fr.new hL), upd_same⟩
end NR

set_option maxRecDepth 100000
set_option maxHeartbeats 4000000
/-! Many lines; the first ones; that at a place. -/
namespace NR
open PySem PySem.Spec PyProof.Rows L2 NM
def spCheckLines : Sp := fun vs H Q _ => ∃ (m : Nat) (LA : Addr) (ls : List (List Nat)), vs = [vI m, .ref LA] ∧ LinesAt H LA ls ∧ ls.length ≤ 60 ∧ ls.flatten.Nodup ∧ (∀ y ∈ ls.flatten, y < m) ∧ ls.flatten.length ≤ 1000 ∧ ∀ H', Fr [] H H' → Q .non H'
def spPouredAll (K : PySem.W.Frag) : Sp := fun vs H Q _ => ∃ (c : AC) (q : Nat) (LA : Addr) (ls : List (List Nat)) (U : List Nat) (sg : Bool), vs = [.ref c.p, .ref LA] ∧ AskAt K c q H ∧ LinesAt H LA ls ∧ ls.length ≤ 60 ∧ U.Perm ls.flatten ∧ U.Pairwise (bt c.rk false) ∧ LinesOk c.rk false ls ∧ U.Nodup ∧ (∀ y ∈ U, y < c.n) ∧ U.length ≤ 64 ∧ q ≤ 1000 ∧ (sg = true → ∀ i, i < ls.length → (ls.getD i []).length ≤ 1) ∧
  ∀ t H' q1, q1 ≤ q + tellB ls.length (perS sg ls.length) U.length → Fr [c.l] H H' → AskAt K c q1 H' → H' t = some (.tup (vL U)) → Q (.ref t) H'
def spSingle : Sp := fun vs H Q _ => ∃ n : Nat, vs = [vI n] ∧ n ≤ 1000 ∧ ∀ t H', Fr [] H H' → LinesAt H' t (singles n) → Q (.ref t) H'
def spFirstOf (K : PySem.W.Frag) : Sp := fun vs H Q _ => ∃ (c : AC) (q k : Nat), vs = [.ref c.p, vI k] ∧ AskAt K c q H ∧ k ≤ c.n ∧ q ≤ 1000 ∧
  ∀ t H' q1, q1 ≤ q + tellB c.n (perS true c.n) k → Fr [c.l] H H' → AskAt K c q1 H' → H' t = some (.tup (vL ((arr c.rk c.n).take k))) → Q (.ref t) H'
def spKth (K : PySem.W.Frag) : Sp := fun vs H Q _ => ∃ (c : AC) (q k : Nat), vs = [.ref c.p, vI k] ∧ AskAt K c q H ∧ k < c.n ∧ q ≤ 1000 ∧
  ∀ H' q1, q1 ≤ q + tellB c.n (perS true c.n) (min (k + 1) (c.n - k)) → Fr [c.l] H H' → AskAt K c q1 H' → Q (vI ((arr c.rk c.n).getD k 0)) H'
theorem take_flat (ls : List (List Nat)) (i : Nat) (h : i < ls.length) : (ls.take (i + 1)).flatten = (ls.take i).flatten ++ ls.getD i [] := by
  rw [List.take_add_one, List.getElem?_eq_getElem h]
  rw [List.flatten_append]
  congr 1
  rw [List.getD_eq_getElem?_getD, List.getElem?_eq_getElem h]
  exact List.append_nil _
theorem getD_in {ls : List (List Nat)} {i : Nat} (h : i < ls.length) : ls.getD i [] ∈ ls := by
  rw [List.getD_eq_getElem?_getD, List.getElem?_eq_getElem h]
  exact List.getElem_mem h
theorem sum_len : ∀ ls : List (List Nat), (ls.map fun l => ((l.length : Nat) : Int)).sum = ((ls.flatten.length : Nat) : Int)
  | [] => rfl
  | l :: ls => by rw [List.map_cons, List.sum_cons, sum_len ls, List.flatten_cons, List.length_append]; omega
theorem nodup_part {ls : List (List Nat)} (h : ls.flatten.Nodup) {i : Nat} (hi : i < ls.length) : (ls.getD i []).Nodup := (List.sublist_flatten_of_mem (getD_in hi)).nodup h
theorem meet_at {K : PySem.W.Frag} {H : Hp} {R : Hp → Prop} {c : AC} {q : Nat} {LA : Addr} {ls : List (List Nat)} {bw : Bool} {x dx : Addr} (nx : H x = none) (nd : H dx = none) (ne : dx ≠ x) (ha : AskAt K c q H) (hL : LinesAt H LA ls) (hlen : ls.length ≤ 1000)
    (k : ∀ G D H', H G = none → H D = none → Fr [] H H' → MeetAt K c x LA G D ls bw (List.replicate ls.length 0) [] none H' → R H') :
    spMeetInit K (.ref x :: [.ref c.p, .ref LA, .bl bw]) (upd (upd H dx (.own x)) x (.ins (He.ga K "Meetings") dx [])) (fun v H2 => v = .non ∧ R H2) E0 := by
  have f0 : Fr [] H (upd (upd H dx (.own x)) x (.ins (He.ga K "Meetings") dx [])) := (Fr.new nd).fresh nx
  refine ⟨x, dx, c, q, LA, ls, bw, rfl, upd_same, ha.keep0 f0, hL.keep f0, hlen, fun G D H' hG hD f hM => ⟨rfl, ?_⟩⟩
  refine k G D H' (f0.none (by simp) hG) (f0.none (by simp) hD) (((f0.mono (ys := [x]) (fun b hb => by cases hb)).trans f).drop fun b hb => .inr ?_) hM
  have : b = x := by simpa using hb
  rw [this]; exact nx
theorem Told.fld {K : PySem.W.Frag} {c : AC} {S LA G D L : Addr} {ls : List (List Nat)} {bw : Bool} {U : List Nat} {q : Nat} {sg : Bool} {k : Nat} {H0 H : Hp} (h : Told K c S LA G D L ls bw U q sg k H0 H) : ∃ (dx : Addr) (lat : Option Nat), H S = some (.ins (He.ga K "Meetings") dx [("asker", .ref c.p), ("lines", .ref LA), ("backwards", .bl bw), ("gone", .ref G), ("sent", .ref D), ("latest", oV lat)]) := by
  obtain ⟨gone, lat, q1, _, ⟨kvs, m, _⟩, _⟩ := h.go
  obtain ⟨dx, e⟩ := m.hp
  exact ⟨dx, lat, e⟩
theorem Told.drop {K : PySem.W.Frag} {c : AC} {S LA G D L : Addr} {ls : List (List Nat)} {bw : Bool} {U : List Nat} {q : Nat} {sg : Bool} {k : Nat} {H0 H : Hp} (h : Told K c S LA G D L ls bw U q sg k H0 H) (h1 : H0 S = none) (h2 : H0 G = none) (h3 : H0 D = none) (h4 : H0 L = none) : Fr [c.l] H0 H := by
  refine h.fr.drop fun b hb => ?_
  simp only [List.mem_cons, List.not_mem_nil, or_false] at hb
  rcases hb with rfl | rfl | rfl | rfl | rfl
  · exact .inl (by simp)
  · exact .inr h1
  · exact .inr h2
  · exact .inr h3
  · exact .inr h4
theorem gv_take {l : List Nat} {m j : Nat} (h : j < m) : gv (l.take m) j = gv l j := by
  unfold gv
  rw [List.getD_eq_getElem?_getD, List.getD_eq_getElem?_getD, List.getElem?_take, if_pos h]
theorem arrB_kth (r : Nat → Nat) {n k m : Nat} {bw : Bool} (hk : k < n) (hm : m = min (k + 1) (n - k)) (hb : bw = decide (n - k < k + 1)) : (arrB r bw n).take m ≠ [] ∧ gv ((arrB r bw n).take m) (((arrB r bw n).take m).length - 1) = (arr r n).getD k 0 := by
  have hl := arrB_length r bw n
  have hlt : ((arrB r bw n).take m).length = m := by rw [List.length_take, hl]; omega
  refine ⟨fun z => ?_, ?_⟩
  · rw [z] at hlt
    have : (0 : Nat) = m := hlt
    omega
  · rw [hlt, gv_take (by omega)]
    unfold arrB gv
    by_cases z : n - k < k + 1
    · rw [hb, decide_eq_true z, if_pos rfl, List.getD_eq_getElem?_getD, List.getD_eq_getElem?_getD, List.getElem?_reverse (by rw [arr_length]; omega), arr_length]
      congr 2
      omega
    · rw [hb, decide_eq_false z, if_neg Bool.false_ne_true]
      congr 1
      omega
section
variable {P : Program} {w : World} {K : PySem.W.Frag} {mg : Str → Option Value} {base : Heap}
theorem sc_check_lines : FnScope ["many", "lines", "numbers", "line"] ["many", "lines"] (defScope s_check_lines) := ⟨rfl, rfl, rfl, by decide +kernel, rfl, by decide +kernel, by decide +kernel⟩
theorem ok_check_lines (T : Hd K mg) : DOk P w K mg base 3 "check_lines" ["many", "lines"] spCheckLines := by
  refine mkD T 53 32 rfl rfl sc_check_lines (fun _ _ _ _ _ _ us hl => match us, hl with | [_, _], _ => rfl) (fun vs H Q E h => ?_) (fun cdv A outer s H vs Q E hr h => ?_)
  · obtain ⟨m, LA, ls, rfl, _⟩ := h; rfl
  · obtain ⟨m, LA, ls, rfl, hL, h60, nd, hm, hlen, q⟩ := h
    refine ⟨_, (pss_cons (ps_if (PW.pt (pw_or (pt_not (pt_val (pe_callB call_isi (by rfl) T.f_isinstance (by decide +kernel) (pa_cons (pv 1) (pa_cons (pe_bltn (v := .ty "tuple") rfl T.f_tuple (by decide +kernel) rfl) pa_nil))))) (pw_or1 (pt_cmpR op_gt (pe_callB call_len_seq (by rfl) T.f_len (by decide +kernel) (pa_cons (pv 1) pa_nil)) (pe_gint T.i_MOST_LINES) (nomark _)))))
        (pss_one ps_never)
        pss_nil)
      (pss_cons (ps_set (i := 2) sc_check_lines.nd rfl (Or.inl rfl) (pe_tup pa_nil))
      (pss_cons (ps_for PassesOwn.never rfl (pi_tup (pv 1)) (pg_name (i := 3) sc_check_lines.nd rfl (Or.inl rfl))
        (pss_cons (ps_expr (pe_cd (ok_check_line T) (hr.mono (by decide)) (pa_cons (pv 0) (pa_cons (pv 3) pa_nil))))
        (pss_one (ps_set (i := 2) sc_check_lines.nd rfl (Or.inl rfl) (pe_op op_catA (pv 2) (pv 3))))))
      (pss_one (ps_expr (pe_cd (ok_check_line T) (hr.mono (by decide)) (pa_cons (pv 0) (pa_cons (pv 2) pa_nil)))))))), ?_⟩
    obtain ⟨vs, hv, hvl, hv2⟩ := id hL
    refine ⟨_, rfl, _, _, _, _, true, rfl, .ty "tuple", .base (.tup hv), kb_tt, true, rfl, _, rfl, LA, _, rfl, .inr (SqT.of hv), _, _, rfl, rfl, _, rfl, ?_⟩
    refine itD (fun gt => absurd gt (by omega)) (fun _ => ?_)
    refine ⟨Nat.zero_le _, fun d hd => ?_⟩
    have fd : Fr [] H (upd H d (.tup [])) := Fr.new hd
    refine ⟨_, rfl, LA, rfl, ⟨_, SqT.of (fd.tup _ _ hv)⟩, for_it (walk_tup (xs := vs)) (fun i σ H' => Fr [] H H' ∧ ∃ (z : Option V) (tn : Addr), σ = [some (vI m), some (.ref LA), some (.ref tn), z] ∧ H' tn = some (.tup (vL (ls.take i).flatten))) ⟨fd, _, d, rfl, upd_same⟩ (fun _ _ _ _ p => SqT.of (p.1.tup _ _ hv)) ?_ ?_⟩
    · rintro i x σ H1 H2 hi ⟨f, z, tn, rfl, en⟩ ⟨rfl, hx⟩
      have hil : i < ls.length := by omega
      obtain ⟨a, e1, e2⟩ := hv2 i hil
      rw [e1] at hx
      have hx := Option.some.inj hx
      subst hx
      have hsub : ∀ y ∈ ls.getD i [], y ∈ ls.flatten := fun y hy => List.mem_flatten.mpr ⟨_, getD_in hil, hy⟩
      have hl1 : (ls.getD i []).length ≤ ls.flatten.length := (List.sublist_flatten_of_mem (getD_in hil)).length_le
      have e2' := f.tup _ _ e2
      refine ⟨_, rfl, _, rfl, m, a, ls.getD i [], rfl, e2', nodup_part nd hil, fun y hy => hm y (hsub y hy), by omega, fun H3 f3 => ?_⟩
      refine ⟨_, rfl, _, rfl, ?_⟩
      have hl2 : (ls.take (i + 1)).flatten.length ≤ ls.flatten.length := by
        have := congrArg List.length (congrArg List.flatten (List.take_append_drop (i + 1) ls))
        rw [List.flatten_append, List.length_append] at this
        omega
      rw [take_flat ls i hil, List.length_append] at hl2
      refine cat_tup (f3.tup _ _ en) (f3.tup _ _ e2') (by omega) (fun t H4 f4 e4 => ?_)
      exact ⟨f.trans (f3.trans f4), _, t, rfl, by rw [take_flat ls i hil]; exact e4⟩
    · rintro σ H1 ⟨f, z, tn, rfl, en⟩
      rw [hvl, List.take_length] at en
      exact ⟨_, rfl, _, rfl, m, tn, ls.flatten, rfl, en, nd, hm, hlen, fun H2 f2 => q _ (f.trans f2)⟩
theorem sc_poured_all : FnScope ["asker", "lines", "meetings", "line", "k"] ["asker", "lines"] (defScope s_poured_all) := ⟨rfl, rfl, rfl, by decide +kernel, rfl, by decide +kernel, by decide +kernel⟩
theorem ok_poured_all (T : Hd K mg) : DOk P w K mg base 16 "poured_all" ["asker", "lines"] (spPouredAll K) := by
  refine mkD T 54 33 rfl rfl sc_poured_all (fun _ _ _ _ _ _ us hl => match us, hl with | [_, _], _ => rfl) (fun vs H Q E h => ?_) (fun cdv A outer s H vs Q E hr h => ?_)
  · obtain ⟨c, q, LA, ls, U, sg, rfl, _⟩ := h; rfl
  · obtain ⟨c, n, LA, ls, U, sg, rfl, ha, hL, h60, hp, hpw, hO, nd, hU, hU64, hq, hsg, q⟩ := h
    refine ⟨_, (pss_cons (ps_expr (pe_cd (ok_check_lines T) (hr.mono (by decide)) (pa_cons (pe_md0 (ok_Noted_many T) (hr.mono (by decide)) (pv 0)) (pa_cons (pv 1) pa_nil))))
      (pss_cons (ps_set (i := 2) sc_poured_all.nd rfl (Or.inr rfl) (pe_mk (ok_Meetings_init T) (hr.mono (by decide)) (pa_cons (pv 0) (pa_cons (pv 1) (pa_cons pe_bl pa_nil)))))
      (pss_one (ps_ret (pe_callTy call_tuple_of (by rfl) T.f_tuple (by decide +kernel) (pa_cons (pe_lc (own := [("k", 4)]) (g := gName 4) (tt := tYes) rfl sc_poured_all.nd (pi_range1 (by rfl) T.f_range (pa_cons (pe_callB (cr_sum rfl) (by rfl) T.f_sum (by decide +kernel) (pa_cons (pe_lc (own := [("line", 3)]) (g := gName 3) (tt := tYes) rfl sc_poured_all.nd (pi_tup (pv 1)) (blkOk_by (own := [("line", 3)]) (N := ["asker", "lines", "meetings", "line", "k"]) (sc := defScope s_poured_all) (by decide +kernel)) (fun _ _ _ _ _ => (pg_name (i := 3) sc_poured_all.nd rfl (Or.inl rfl))) (fun _ _ _ _ _ => pts_nil) (fun _ _ _ _ _ => (pe_callB (call_len_seqK (K := K)) (by rfl) T.f_len (by decide +kernel) (pa_cons (pv 3) pa_nil)))) pa_nil)) pa_nil)) (blkOk_by (own := [("k", 4)]) (N := ["asker", "lines", "meetings", "line", "k"]) (sc := defScope s_poured_all) (by decide +kernel)) (fun _ _ _ _ _ => (pg_name (i := 4) sc_poured_all.nd rfl (Or.inl rfl))) (fun _ _ _ _ _ => pts_nil) (fun _ _ _ _ _ => (pe_md0 (ok_Meetings_send T) (hr.mono (by decide)) (pv 2)))) pa_nil)))))), ?_⟩
    have hfl : ls.flatten.length = U.length := hp.symm.length_eq
    refine ⟨_, rfl, _, _, _, rfl, ha.hp, rfl, c, n, rfl, ha, _, rfl, c.n, LA, ls, rfl, hL, h60, hp.nodup_iff.mp nd, fun y hy => hU y (hp.symm.subset hy), by omega, fun H1 f1 => ?_⟩
    refine ⟨_, rfl, _, rfl, ?_⟩
    intro S sx hS nd ne
    refine meet_at hS nd ne (ha.keep0 f1) (hL.keep f1) (by omega) fun G D H2 hG hD f2 hM => ?_
    have f12 := f1.trans f2
    obtain ⟨vs, hv, hvl, hv2⟩ := id hM.hL
    obtain ⟨dx, hS2⟩ := hM.hp
    refine ⟨_, rfl, LA, rfl, ⟨_, SqT.of hv⟩, fun B hB => lc_it (walk_tup (xs := vs)) (fun i H' => Fr [] H2 H' ∧ H' B = some (.lst ((ls.take i).map fun l => V.int ((l.length : Nat) : Int)))) ⟨Fr.new hB, upd_same⟩ (fun _ _ _ p => SqT.of (p.1.tup _ _ hv)) ?_ ?_⟩
    · rintro i x H3 H4 hi ⟨f3, e3⟩ ⟨rfl, hx⟩
      have hil : i < ls.length := by omega
      obtain ⟨a, e1, e2⟩ := hv2 i hil
      rw [e1] at hx
      have hx := Option.some.inj hx
      subst hx
      refine ⟨rfl, ?_⟩
      refine ⟨_, rfl, a, _, rfl, .inr (SqT.of (f3.tup _ _ e2)), ?_⟩
      refine ⟨_, e3, by rw [List.length_map, List.length_take]; exact sz_lt (by omega), f3.fresh hB, ?_⟩
      rw [upd_same, vL_length, List.take_add_one, List.getElem?_eq_getElem hil, List.map_append, List.getD_eq_getElem?_getD, List.getElem?_eq_getElem hil]
      rfl
    · rintro H3 ⟨f3, e3⟩
      rw [hvl, List.take_length] at e3
      have e3' : H3 B = some (.lst ((ls.map fun l => ((l.length : Nat) : Int)).map V.int)) := by rw [e3, List.map_map]; rfl
      refine ⟨B, _, rfl, SqL.of e3', ?_⟩
      rw [sum_len, hfl]
      refine ⟨((U.length : Nat) : Int), rfl, by omega, by omega, fun L hL3 => ?_⟩
      have hM3 := hM.keep0 f3
      have ha3 := (ha.keep0 f12).keep0 f3
      have f123 := f12.trans f3
      have hL0 := f123.none (by simp) hL3
      have nL := ha.newL hL0
      have nGL : G ≠ L := ne_of_none hM3.hG hL3
      have tS := Told.start (L := L) (U := U) (sg := sg) (H0 := H) ha3 hM3 (fun i hi y hy => hU y (hp.symm.subset (List.mem_flatten.mpr ⟨_, getD_in hi, hy⟩))) (MOk.start hO hp hpw) hL3 (f123.mono (fun b hb => by cases hb))
      have SGC := hsg
      refine lc_it (walk_range0 (n := ((U.length : Nat) : Int).toNat)) (fun i H' => Told K c S LA G D L ls false U n sg i H H') tS (fun _ _ _ _ => trivial) ?_ ?_
      · skip
        rintro i x H5 H6 hi told ⟨rfl, rfl⟩
        refine ⟨rfl, ?_⟩
        obtain ⟨dx, lat, hS⟩ := told.fld
        refine ⟨_, rfl, S, dx, _, rfl, hS, rfl, ?_⟩
        refine told.send (by omega) (by omega) (by omega) hq SGC nGL nL fun H7 e7 nx => ⟨_, e7, by rw [vL_length, List.length_take]; exact sz_lt (by omega), nx⟩
      · rintro H4 told
        rw [Int.toNat_natCast] at told
        have e4 := told.hl
        rw [List.take_length] at e4
        obtain ⟨gone, lat, q1, ha4, _, hq1, _⟩ := told.go
        refine ⟨L, _, rfl, .inl ⟨SqL.of e4, fun t ht => ?_⟩⟩
        have fr := told.drop (f1.none (by simp) hS) (f1.none (by simp) hG) (f1.none (by simp) hD) hL0
        exact q t _ q1 hq1 (fr.trans (Fr.new ht)) (ha4.keep0 (Fr.new ht)) upd_same
theorem sc_single_lines : FnScope ["many", "number"] ["many"] (defScope s_single_lines) := ⟨rfl, rfl, rfl, by decide +kernel, rfl, by decide +kernel, by decide +kernel⟩
theorem ok_single_lines (T : Hd K mg) : DOk P w K mg base 1 "single_lines" ["many"] spSingle := by
  refine mkD T 55 34 rfl rfl sc_single_lines (fun _ _ _ _ _ _ us hl => match us, hl with | [_], _ => rfl) (fun vs H Q E h => ?_) (fun cdv A outer s H vs Q E hr h => ?_)
  · obtain ⟨n, rfl, _⟩ := h; rfl
  · obtain ⟨n, rfl, h60, q⟩ := h
    refine ⟨_, (pss_one (ps_ret (pe_callTy call_tuple_of (by rfl) T.f_tuple (by decide +kernel) (pa_cons (pe_lc (own := [("number", 1)]) (g := gName 1) (tt := tYes) rfl sc_single_lines.nd (pi_range1 (by rfl) T.f_range (pa_cons (pv 0) pa_nil)) (blkOk_by (own := [("number", 1)]) (N := ["many", "number"]) (sc := defScope s_single_lines) (by decide +kernel)) (fun _ _ _ _ _ => (pg_name (i := 1) sc_single_lines.nd rfl (Or.inl rfl))) (fun _ _ _ _ _ => pts_nil) (fun _ _ _ _ _ => (pe_tup (pa_cons (pv 1) pa_nil)))) pa_nil)))), ?_⟩
    refine ⟨_, rfl, (n : Int), rfl, by omega, by omega, fun L hL => ?_⟩
    refine lc_it (walk_range0 (n := ((n : Nat) : Int).toNat)) (fun i H' => Fr [L] H H' ∧ ∃ vs : List V, H' L = some (.lst vs) ∧ vs.length = i ∧ ∀ j, j < i → ∃ a : Addr, vs[j]? = some (.ref a) ∧ H' a = some (.tup (vL [j]))) ⟨Fr.new hL, [], upd_same, rfl, fun j hj => absurd hj (Nat.not_lt_zero _)⟩ (fun _ _ _ _ => trivial) ?_ ?_
    · rintro i x H1 H2 hi ⟨f, vs, e, hl, hj⟩ ⟨rfl, rfl⟩
      refine ⟨rfl, ?_⟩
      refine ⟨_, rfl, by show 1 ≤ sizeLine; decide, fun t ht => ?_⟩
      have nLt : L ≠ t := ne_of_none e ht
      have f2 : Fr [L] H2 (upd (upd H2 t (.tup [vI i])) L (.lst (vs ++ [.ref t]))) := (Fr.new ht).trans (Fr.put1 (by rw [upd_ne nLt]; exact e) rfl)
      refine ⟨vs, by rw [upd_ne nLt]; exact e, sz_lt (by omega), f.trans f2, _, upd_same, by rw [List.length_append, hl]; rfl, fun j hji => ?_⟩
      by_cases z : j = i
      · subst z
        exact ⟨t, by rw [List.getElem?_append_right (by omega), hl, Nat.sub_self]; rfl, by rw [upd_ne nLt.symm, upd_same]; rfl⟩
      · obtain ⟨a, a1, a2⟩ := hj j (by omega)
        exact ⟨a, by rw [List.getElem?_append_left (by omega)]; exact a1, f2.tup _ _ a2⟩
    · rintro H1 ⟨f, vs, e, hl, hj⟩
      rw [Int.toNat_natCast] at hl hj
      refine ⟨L, _, rfl, .inl ⟨SqL.of e, fun t ht => ?_⟩⟩
      have ft := f.trans (Fr.new (o := .tup vs) ht)
      refine q t _ (ft.drop fun b hb => .inr ?_) ⟨vs, upd_same, by rw [singles_length]; exact hl, fun i hi => ?_⟩
      · rw [List.mem_singleton.mp hb]; exact hL
      · rw [singles_length] at hi
        obtain ⟨a, a1, a2⟩ := hj i hi
        refine ⟨a, a1, ?_⟩
        rw [singles_get hi, upd_ne (ne_of_none a2 ht)]
        exact a2
theorem sc_first_of : FnScope ["asker", "count", "many", "meetings", "k"] ["asker", "count"] (defScope s_first_of) := ⟨rfl, rfl, rfl, by decide +kernel, rfl, by decide +kernel, by decide +kernel⟩
theorem ok_first_of (T : Hd K mg) : DOk P w K mg base 16 "first_of" ["asker", "count"] (spFirstOf K) := by
  refine mkD T 56 35 rfl rfl sc_first_of (fun _ _ _ _ _ _ us hl => match us, hl with | [_, _], _ => rfl) (fun vs H Q E h => ?_) (fun cdv A outer s H vs Q E hr h => ?_)
  · obtain ⟨c, q, k, rfl, _⟩ := h; rfl
  · obtain ⟨c, n, k, rfl, ha, hk, hq, q⟩ := h
    refine ⟨_, (pss_cons (ps_set (i := 2) sc_first_of.nd rfl (Or.inl rfl) (pe_md0 (ok_Noted_many T) (hr.mono (by decide)) (pv 0)))
      (pss_cons (ps_if (PW.pt (pw_or (pt_not (pt_val (pe_cd (ok_is_whole T) (hr.mono (by decide)) (pa_cons (pv 1) pa_nil)))) (pw_or1 (pt_not (pt_chain op_le op_le pe_int (pv 1) (pv 2))))))
        (pss_one ps_never)
        pss_nil)
      (pss_cons (ps_set (i := 3) sc_first_of.nd rfl (Or.inr rfl) (pe_mk (ok_Meetings_init T) (hr.mono (by decide)) (pa_cons (pv 0) (pa_cons (pe_cd (ok_single_lines T) (hr.mono (by decide)) (pa_cons (pv 2) pa_nil)) (pa_cons pe_bl pa_nil)))))
      (pss_one (ps_ret (pe_callTy call_tuple_of (by rfl) T.f_tuple (by decide +kernel) (pa_cons (pe_lc (own := [("k", 4)]) (g := gName 4) (tt := tYes) rfl sc_first_of.nd (pi_range1 (by rfl) T.f_range (pa_cons (pv 1) pa_nil)) (blkOk_by (own := [("k", 4)]) (N := ["asker", "count", "many", "meetings", "k"]) (sc := defScope s_first_of) (by decide +kernel)) (fun _ _ _ _ _ => (pg_name (i := 4) sc_first_of.nd rfl (Or.inl rfl))) (fun _ _ _ _ _ => pts_nil) (fun _ _ _ _ _ => (pe_md0 (ok_Meetings_send T) (hr.mono (by decide)) (pv 3)))) pa_nil))))))), ?_⟩
    have h60 := ha.ok.n60
    refine ⟨_, rfl, _, _, _, rfl, ha.hp, rfl, c, n, rfl, ha, ?_⟩
    refine ⟨_, rfl, _, rfl, .inl ⟨⟨_, rfl⟩, true, rfl, ?_⟩⟩
    refine ⟨_, rfl, _, _, rfl, rfl, _, rfl, ?_⟩
    refine itD (fun _ => ?_) (fun n => absurd (by omega) n)
    refine ⟨_, rfl, _, _, rfl, rfl, _, rfl, ?_⟩
    rw [decide_eq_true (show (k : Int) ≤ (c.n : Int) by omega)]
    refine ⟨_, rfl, _, rfl, c.n, rfl, by omega, fun LA H1 f1 hL => ?_⟩
    intro S sx hS nd ne
    refine meet_at hS nd ne (ha.keep0 f1) hL (by rw [singles_length]; omega) fun G D H2 hG hD f2 hM => ?_
    refine ⟨_, rfl, (k : Int), rfl, by omega, by omega, fun L hL3 => ?_⟩
    have f12 := f1.trans f2
    have hL0 := f12.none (by simp) hL3
    have nL := ha.newL hL0
    have nGL : G ≠ L := ne_of_none hM.hG hL3
    have hO := single_start c.rk false c.n
    have hlen : (arr c.rk c.n).length = c.n := arr_length _ _
    have sl := singles_length c.n
    have tS := Told.start (L := L) (U := arr c.rk c.n) (sg := true) (H0 := H) (ha.keep0 f12) hM (fun i hi y hy => by
      rw [sl] at hi
      rw [singles_get hi] at hy
      rw [List.mem_singleton.mp hy]; exact hi) hO hL3 (f12.mono (fun b hb => by cases hb))
    have SGC : true = true → ∀ i, i < (singles c.n).length → ((singles c.n).getD i []).length ≤ 1 := fun _ i hi => by
      rw [sl] at hi
      rw [singles_get hi]; exact Nat.le_refl _
    refine lc_it (walk_range0 (n := ((k : Nat) : Int).toNat)) (fun i H' => Told K c S LA G D L (singles c.n) false (arr c.rk c.n) n true i H H') tS (fun _ _ _ _ => trivial) ?_ ?_
    · skip
      rintro i x H5 H6 hi told ⟨rfl, rfl⟩
      refine ⟨rfl, ?_⟩
      obtain ⟨dx, lat, hS⟩ := told.fld
      refine ⟨_, rfl, S, dx, _, rfl, hS, rfl, ?_⟩
      refine told.send (by omega) (by omega) (by omega) hq SGC nGL nL fun H7 e7 nx => ⟨_, e7, by rw [vL_length, List.length_take]; exact sz_lt (by omega), nx⟩
    · rintro H4 told
      rw [Int.toNat_natCast] at told
      have e4 := told.hl
      obtain ⟨gone, lat, q1, ha4, _, hq1, _⟩ := told.go
      rw [sl] at hq1
      refine ⟨L, _, rfl, .inl ⟨SqL.of e4, fun t ht => ?_⟩⟩
      have fr := told.drop (f1.none (by simp) hS) (f1.none (by simp) hG) (f1.none (by simp) hD) hL0
      exact q t _ q1 hq1 (fr.trans (Fr.new ht)) (ha4.keep0 (Fr.new ht)) upd_same
theorem sc_kth : FnScope ["asker", "place", "many", "meetings", "told", "k"] ["asker", "place"] (defScope s_kth) := ⟨rfl, rfl, rfl, by decide +kernel, rfl, by decide +kernel, by decide +kernel⟩
theorem ok_kth (T : Hd K mg) : DOk P w K mg base 16 "kth" ["asker", "place"] (spKth K) := by
  refine mkD T 57 36 rfl rfl sc_kth (fun _ _ _ _ _ _ us hl => match us, hl with | [_, _], _ => rfl) (fun vs H Q E h => ?_) (fun cdv A outer s H vs Q E hr h => ?_)
  · obtain ⟨c, q, k, rfl, _⟩ := h; rfl
  · obtain ⟨c, n, k, rfl, ha, hk, hq, q⟩ := h
    refine ⟨_, (pss_cons (ps_set (i := 2) sc_kth.nd rfl (Or.inl rfl) (pe_md0 (ok_Noted_many T) (hr.mono (by decide)) (pv 0)))
      (pss_cons (ps_if (PW.pt (pw_or (pt_not (pt_val (pe_cd (ok_is_whole T) (hr.mono (by decide)) (pa_cons (pv 1) pa_nil)))) (pw_or1 (pt_not (pt_chain op_le op_lt pe_int (pv 1) (pv 2))))))
        (pss_one ps_never)
        pss_nil)
      (pss_cons (ps_set (i := 3) sc_kth.nd rfl (Or.inr rfl) (pe_mk (ok_Meetings_init T) (hr.mono (by decide)) (pa_cons (pv 0) (pa_cons (pe_cd (ok_single_lines T) (hr.mono (by decide)) (pa_cons (pv 2) pa_nil)) (pa_cons (pe_cmpR op_gt (pe_op op_addN (pv 1) pe_int) (pe_op op_subN (pv 2) (pv 1)) (nomark _)) pa_nil)))))
      (pss_cons (ps_setLc (i := 4) (own := [("k", 5)]) (g := gName 5) (tt := tYes) rfl sc_kth.nd rfl rfl (sw_true rfl rfl rfl (by decide +kernel)) (pi_range1 (by rfl) T.f_range (pa_cons (pe_callB (call_min2 rfl) (by rfl) T.f_min (by decide +kernel) (pa_cons (pe_op op_addN (pv 1) pe_int) (pa_cons (pe_op op_subN (pv 2) (pv 1)) pa_nil))) pa_nil)) (blkOk_by (own := [("k", 5)]) (N := ["asker", "place", "many", "meetings", "told", "k"]) (sc := defScope s_kth) (by decide +kernel)) (fun _ _ _ _ _ => (pg_name (i := 5) sc_kth.nd rfl (Or.inl rfl))) (fun _ _ _ _ _ => pts_nil) (fun _ _ _ _ _ => (pe_md0 (ok_Meetings_send T) (hr.mono (by decide)) (pv 3))))
      (pss_one (ps_ret (pe_ix ix_list (pv 4) (pe_un un_neg pe_int) (fun _ _ => rfl)))))))), ?_⟩
    have h60 := ha.ok.n60
    refine ⟨_, rfl, _, _, _, rfl, ha.hp, rfl, c, n, rfl, ha, ?_⟩
    refine ⟨_, rfl, _, rfl, .inl ⟨⟨_, rfl⟩, true, rfl, ?_⟩⟩
    refine ⟨_, rfl, _, _, rfl, rfl, _, rfl, ?_⟩
    refine itD (fun _ => ?_) (fun n => absurd (by omega) n)
    refine ⟨_, rfl, _, _, rfl, rfl, _, rfl, ?_⟩
    rw [decide_eq_true (show (k : Int) < (c.n : Int) by omega)]
    refine ⟨_, rfl, _, rfl, c.n, rfl, by omega, fun LA H1 f1 hL => ?_⟩
    refine ⟨_, rfl, k, 1, rfl, rfl, _, rfl, _, rfl, c.n, k, rfl, rfl, by omega, _, _, rfl, rfl, ?_⟩
    intro S sx hS nd ne
    refine meet_at (bw := decide (((c.n - k : Nat) : Int) < ((k + 1 : Nat) : Int))) hS nd ne (ha.keep0 f1) hL (by rw [singles_length]; omega) fun G D H2 hG hD f2 hM => ?_
    have hb : decide (((c.n - k : Nat) : Int) < ((k + 1 : Nat) : Int)) = decide (c.n - k < k + 1) := decide_eq_decide.mpr (by omega)
    generalize decide (((c.n - k : Nat) : Int) < ((k + 1 : Nat) : Int)) = bw at hM hb
    have hmi : (if ((c.n - k : Nat) : Int) < ((k + 1 : Nat) : Int) then ((c.n - k : Nat) : Int) else ((k + 1 : Nat) : Int)) = ((min (k + 1) (c.n - k) : Nat) : Int) := by
      split <;> omega
    refine ⟨_, rfl, k, 1, rfl, rfl, _, rfl, _, rfl, c.n, k, rfl, rfl, by omega, _, _, rfl, ?_⟩
    rw [hmi]
    obtain ⟨m, hm⟩ : ∃ m, m = min (k + 1) (c.n - k) := ⟨_, rfl⟩
    rw [← hm] at q ⊢
    refine ⟨(m : Int), rfl, by omega, by omega, fun L hL3 => ?_⟩
    have f12 := f1.trans f2
    have hL0 := f12.none (by simp) hL3
    have nL := ha.newL hL0
    have nGL : G ≠ L := ne_of_none hM.hG hL3
    have hO := single_start c.rk bw c.n
    have hlen : (arrB c.rk bw c.n).length = c.n := arrB_length _ _ _
    have sl := singles_length c.n
    have tS := Told.start (L := L) (U := arrB c.rk bw c.n) (sg := true) (H0 := H) (ha.keep0 f12) hM (fun i hi y hy => by
      rw [sl] at hi
      rw [singles_get hi] at hy
      rw [List.mem_singleton.mp hy]; exact hi) hO hL3 (f12.mono (fun b hb => by cases hb))
    have SGC : true = true → ∀ i, i < (singles c.n).length → ((singles c.n).getD i []).length ≤ 1 := fun _ i hi => by
      rw [sl] at hi
      rw [singles_get hi]; exact Nat.le_refl _
    refine lc_it (walk_range0 (n := ((m : Nat) : Int).toNat)) (fun i H' => Told K c S LA G D L (singles c.n) bw (arrB c.rk bw c.n) n true i H H') tS (fun _ _ _ _ => trivial) ?_ ?_
    · skip
      rintro i x H5 H6 hi told ⟨rfl, rfl⟩
      refine ⟨rfl, ?_⟩
      obtain ⟨dx, lat, hS⟩ := told.fld
      refine ⟨_, rfl, S, dx, _, rfl, hS, rfl, ?_⟩
      refine told.send (by omega) (by omega) (by omega) hq SGC nGL nL fun H7 e7 nx => ⟨_, e7, by rw [vL_length, List.length_take]; exact sz_lt (by omega), nx⟩
    · rintro H4 told
      rw [Int.toNat_natCast] at told
      have e4 := told.hl
      obtain ⟨gone, lat, q1, ha4, _, hq1, _⟩ := told.go
      rw [sl] at hq1
      obtain ⟨k1, k2⟩ := arrB_kth c.rk hk hm hb
      have fr := told.drop (f1.none (by simp) hS) (f1.none (by simp) hG) (f1.none (by simp) hD) hL0
      refine ⟨_, rfl, _, rfl, L, _, _, _, rfl, rfl, SqL.of e4, atI_end k1, ?_⟩
      rw [k2]
      exact q _ q1 hq1 fr ha4
end
end NR

set_option maxRecDepth 100000
set_option maxHeartbeats 4000000
/-! Shelves; the law's small helpers. -/
namespace NR
open PySem PySem.Spec PyProof.Rows L2 NM
theorem ask_at {K : PySem.W.Frag} {H : Hp} {R : Hp → Prop} {r o x dx : Addr} {n : Nat} {rk : Nat → Nat} {rows : List Thing} {ord : Order} (nx : H x = none) (nd : H dx = none) (ne : dx ≠ x) (hr : RowAt H r rows) (ho : OrdAt H o ord) (hok : OrdOk ord) (hth : ∀ t ∈ rows, ThingOk t) (hc : CmpOk n rows ord rk)
    (k : ∀ (l : Addr) (H' : Hp), H l = none → Fr [] H H' → AskAt K ⟨x, dx, l, r, o, n, rk, rows, ord⟩ 0 H' → R H') :
    spAskerInit K (.ref x :: [.ref r, .ref o, .non]) (upd (upd H dx (.own x)) x (.ins (He.ga K "Asker") dx [])) (fun v H2 => v = .non ∧ R H2) E0 := by
  have f0 : Fr [] H (upd (upd H dx (.own x)) x (.ins (He.ga K "Asker") dx [])) := (Fr.new nd).fresh nx
  refine ⟨x, dx, r, o, n, rk, rows, ord, rfl, upd_same, hr.keep f0, ho.keep f0, hok, hth, hc, fun l H' hl f ha => ⟨rfl, ?_⟩⟩
  refine k l H' (f0.none (by simp) hl) (((f0.mono (ys := [x]) (fun b hb => by cases hb)).trans f).drop fun b hb => .inr ?_) ha
  have : b = x := by simpa using hb
  rw [this]; exact nx
/-- the row, its order, the arrangement -/
structure G where
  r : Addr
  o : Addr
  a : Addr
  n : Nat
  rk : Nat → Nat
  rows : List Thing
  ord : Order
structure GOk (g : G) (H : Hp) : Prop where
  hr : RowAt H g.r g.rows
  ho : OrdAt H g.o g.ord
  ha : H g.a = some (.tup (vL (arr g.rk g.n)))
  c : CmpOk g.n g.rows g.ord g.rk
  ok : OrdOk g.ord
  th : ∀ t ∈ g.rows, ThingOk t
theorem GOk.keep {g : G} {H H' : Hp} {xs : List Addr} (h : GOk g H) (f : Fr xs H H') : GOk g H' := ⟨h.hr.keep f, h.ho.keep f, f.tup _ _ h.ha, h.c, h.ok, h.th⟩
def G.ac (g : G) (p dx l : Addr) : AC := ⟨p, dx, l, g.r, g.o, g.n, g.rk, g.rows, g.ord⟩
/-- the row as it stands: its things by addresses -/
def stF (K : PySem.W.Frag) (S dx a : Addr) (H : Hp) : Prop := H S = some (.ins (He.ga K "Shelf") dx [("stood", .ref a)])
def spShelfInit (K : PySem.W.Frag) : Sp := fun vs H Q _ => ∃ (p dx r : Addr) (rows : List Thing), vs = [.ref p, .ref r] ∧ H p = some (.ins (He.ga K "Shelf") dx []) ∧ RowAt H r rows ∧ rows.length ≤ 60 ∧ (∀ t ∈ rows, ThingOk t) ∧ ∀ H', Fr [p] H H' → stF K p dx r H' → Q .non H'
def spShelfThings (K : PySem.W.Frag) : Sp := fun vs H Q _ => ∃ (S dx a : Addr), vs = [.ref S] ∧ stF K S dx a H ∧ Q (.ref a) H
def spShelfOrder (K : PySem.W.Frag) : Sp := fun vs H Q _ => ∃ (S dx : Addr) (g : G) (xs : List V) (f : Nat) (m : Bool), vs = [.ref S, .ref g.o, .non, vI f, .str (manS m)] ∧ stF K S dx g.r H ∧ GOk g H ∧ H g.r = some (.tup xs) ∧ 1 ≤ f ∧ f ≤ 64 ∧ (ordF g.rk g.n f m).2 < 90000 ∧
  ∀ a H', Fr [S] H H' → stF K S dx a H' → H' a = some (.tup ((arr g.rk g.n).map fun i => xs.getD i .non)) → Q (vI (ordF g.rk g.n f m).2) H'
def spTwos : Sp := fun vs H Q _ => ∃ n : Nat, vs = [vI n] ∧ n ≤ 100000 ∧ ∀ H', Fr [] H H' → Q (vI (twos n)) H'
def spLWhole : Sp := fun vs H Q _ => ∃ i : Int, vs = [.int i] ∧ Q (.bl true) H
def spSame : Sp := fun vs H Q _ => ∃ (t a : Addr) (l : List Nat), vs = [.ref t, .ref a] ∧ H t = some (.tup (vL l)) ∧ H a = some (.tup (vL l)) ∧ l.length ≤ 1000 ∧ ∀ H', Fr [] H H' → Q (.bl true) H'
def mostF (n f : Nat) (m : Bool) : Nat := if n = 0 then 0 else (n - 1) * (1 + twos f) + wt m * n * twos ((2 * n + f) / (f + 1))
theorem ordF_most (r : Nat → Nat) {n f : Nat} (m : Bool) (hf : 1 ≤ f) : (ordF r n f m).2 ≤ mostF n f m := by
  unfold mostF
  by_cases z : n = 0
  · subst z
    rw [ordF_zero, if_pos rfl]
    exact Nat.le_refl _
  · rw [if_neg z]
    exact ordF_asks r n f m (by omega) hf
theorem mostF_small {n f : Nat} (m : Bool) (hn : n ≤ 60) (hf : f ≤ 64) : mostF n f m ≤ 5000 := by
  unfold mostF
  by_cases z : n = 0
  · rw [if_pos z]; omega
  · rw [if_neg z]
    have h1 : twos f ≤ 6 := twos64 hf
    have h2 : twos ((2 * n + f) / (f + 1)) ≤ 8 := twos_least (by
      have : (2 * n + f) / (f + 1) ≤ 2 * n + f := Nat.div_le_self _ _
      omega)
    have h3 : wt m ≤ 2 := by cases m <;> decide
    have h4 : (n - 1) * (1 + twos f) ≤ 60 * 7 := Nat.mul_le_mul (by omega) (by omega)
    have h5 : wt m * n ≤ 2 * 60 := Nat.mul_le_mul h3 hn
    have h6 : wt m * n * twos ((2 * n + f) / (f + 1)) ≤ 2 * 60 * 8 := Nat.mul_le_mul h5 h2
    omega
def spMost : Sp := fun vs H Q _ => ∃ (n f : Nat) (m : Bool), vs = [vI n, vI f, .str (manS m)] ∧ n ≤ 60 ∧ 1 ≤ f ∧ f ≤ 64 ∧ ∀ H', Fr [] H H' → Q (vI (mostF n f m)) H'
section
variable {P : Program} {w : World} {K : PySem.W.Frag} {mg : Str → Option Value} {base : Heap}
theorem sc_Shelf_init : FnScope ["self", "row"] ["self", "row"] (defScope s_Shelf_init) := ⟨rfl, rfl, rfl, by decide +kernel, rfl, by decide +kernel, by decide +kernel⟩
theorem ok_Shelf_init (T : Hd K mg) : KOk P w K mg base 5 (He.ga K "Shelf") "Shelf" ["self", "row"] (spShelfInit K) := by
  refine mkK T 58 65 127 rfl rfl rfl sc_Shelf_init (fun _ _ _ _ _ _ us hl => match us, hl with | [_, _], _ => rfl) (fun vs H Q E h => ?_) (fun cdv A outer s H vs Q E hr h => ?_)
  · obtain ⟨p, dx, r, rows, rfl, _⟩ := h; rfl
  · obtain ⟨p, dx, r, rows, rfl, hp, hr0, h60, hth, q⟩ := h
    refine ⟨_, (pss_cons (ps_if (pt_not (pt_val (pe_cd (ok_is_row T) (hr.mono (by decide)) (pa_cons (pv 1) pa_nil))))
        (pss_one ps_never)
        pss_nil)
      (pss_one (ps_fld (pv 0) (pv 1) rfl))), ?_⟩
    refine ⟨_, rfl, r, rows, rfl, hr0, h60, hth, fun H1 f1 => ⟨true, rfl, ?_⟩⟩
    have hp1 := fun h => f1.keep p _ h hp
    refine ⟨_, rfl, _, rfl, p, _, dx, _, rfl, f1.keep p _ (by simp) hp, T.c_Shelf, T.n_Shelf_stood, by show 0 < 1000; decide, ?_⟩
    exact q _ ((f1.mono (fun b hb => by cases hb)).trans (Fr.put1 (f1.keep p _ (by simp) hp) rfl)) upd_same
theorem sc_Shelf_things : FnScope ["self"] ["self"] (defScope s_Shelf_things) := ⟨rfl, rfl, rfl, by decide +kernel, rfl, by decide +kernel, by decide +kernel⟩
theorem ok_Shelf_things (T : Hd K mg) : MOk P w K mg base 1 (He.ga K "Shelf") "things" ["self"] (spShelfThings K) := by
  refine mkM T 59 126 129 rfl rfl rfl sc_Shelf_things (fun _ _ _ _ _ _ us hl => match us, hl with | [_], _ => rfl) (fun vs H Q E h => ?_) (fun cdv A outer s H vs Q E hr h => ?_)
  · obtain ⟨S, dx, a, rfl, _⟩ := h; rfl
  · obtain ⟨S, dx, a, rfl, hS, q⟩ := h
    refine ⟨_, (pss_one (ps_ret (pe_fld (pv 0) rfl))), ?_⟩
    exact ⟨_, rfl, _, _, _, _, _, rfl, hS, T.c_Shelf, T.n_Shelf_stood, rfl, q⟩
theorem sc_Shelf_order : FnScope ["self", "columns", "most", "fill", "manner", "asker", "line", "number"] ["self", "columns", "most", "fill", "manner"] (defScope s_Shelf_order) := ⟨rfl, rfl, rfl, by decide +kernel, rfl, by decide +kernel, by decide +kernel⟩
theorem ok_Shelf_order (T : Hd K mg) : MOk P w K mg base 12 (He.ga K "Shelf") "order" ["self", "columns", "most", "fill", "manner"] (spShelfOrder K) := by
  refine mkM T 60 126 130 rfl rfl rfl sc_Shelf_order (fun _ _ _ _ _ _ us hl => match us, hl with | [_, _, _, _, _], _ => rfl) (fun vs H Q E h => ?_) (fun cdv A outer s H vs Q E hr h => ?_)
  · obtain ⟨S, dx, g, xs, f, m, rfl, _⟩ := h; rfl
  · obtain ⟨S, dx, g, xs, f, m, rfl, hS, hg, hxs, h1, h64, hn, q⟩ := h
    refine ⟨_, (pss_cons (ps_set (i := 5) sc_Shelf_order.nd rfl (Or.inr rfl) (pe_mk (ok_Asker_init T) (hr.mono (by decide)) (pa_cons (pe_fld (pv 0) rfl) (pa_cons (pv 1) (pa_cons (pv 2) pa_nil)))))
      (pss_cons (ps_set (i := 6) sc_Shelf_order.nd rfl (Or.inl rfl) (pe_cd (ok_ordered T) (hr.mono (by decide)) (pa_cons (pv 5) (pa_cons (pv 3) (pa_cons (pv 4) pa_nil)))))
      (pss_cons (ps_fld (pv 0) (pe_callTy call_tuple_of (by rfl) T.f_tuple (by decide +kernel) (pa_cons (pe_lc (own := [("number", 7)]) (g := gName 7) (tt := tYes) rfl sc_Shelf_order.nd (pi_tup (pv 6)) (blkOk_by (own := [("number", 7)]) (N := ["self", "columns", "most", "fill", "manner", "asker", "line", "number"]) (sc := defScope s_Shelf_order) (by decide +kernel)) (fun _ _ _ _ _ => (pg_name (i := 7) sc_Shelf_order.nd rfl (Or.inl rfl))) (fun _ _ _ _ _ => pts_nil) (fun _ _ _ _ _ => (pe_ix (ix_tupK (K := K)) (pe_fldK (K := K) (pv 5) rfl) (pv 7) (fun _ _ => rfl)))) pa_nil)) rfl)
      (pss_one (ps_ret (pe_callB call_len_seq (by rfl) T.f_len (by decide +kernel) (pa_cons (pe_md0 (ok_Noted_book T) (hr.mono (by decide)) (pv 5)) pa_nil))))))), ?_⟩
    refine ⟨_, rfl, _, _, _, _, _, rfl, hS, T.c_Shelf, T.n_Shelf_stood, rfl, _, rfl, _, rfl, ?_⟩
    intro A sx hA nd ne
    refine ask_at hA nd ne hg.hr hg.ho hg.ok hg.th hg.c fun l H1 hl f1 ha => ?_
    refine ⟨_, rfl, _, rfl, _, rfl, _, 0, f, m, rfl, ha, h1, h64, by rw [Nat.zero_add]; exact hn, fun t H2 f2 ha2 e2 => ?_⟩
    have F2 : Fr [l] H H2 := (f1.mono (fun b hb => by cases hb)).trans f2
    refine ⟨_, rfl, t, rfl, ⟨_, SqT.of e2⟩, fun B hB => lc_it (walk_tup (xs := vL (arr g.rk g.n))) (fun i H' => Fr [] H2 H' ∧ H' B = some (.lst (((arr g.rk g.n).take i).map fun i => xs.getD i .non))) ⟨Fr.new hB, upd_same⟩ (fun _ _ _ p => SqT.of (p.1.tup _ _ e2)) ?_ ?_⟩
    · rintro i x H3 H4 hi ⟨f3, e3⟩ ⟨rfl, hx⟩
      obtain ⟨y, hy, rfl⟩ := map_get hx
      rw [vL_length] at hi
      have hyn : y < g.n := arr_mem.mp (List.mem_of_getElem? hy)
      obtain ⟨ws, w1, w2, _⟩ := hg.hr
      rw [hxs] at w1
      injection w1 with w1
      injection w1 with w1
      subst w1
      have hyl : y < xs.length := by rw [w2, hg.c.len]; exact hyn
      refine ⟨rfl, ?_⟩
      refine ⟨_, rfl, _, _, _, _, _, rfl, f3.keep _ _ (by simp) ha2.hp, T.c_Asker, T.n_Asker_row, rfl, _, rfl, g.r, xs, _, _, rfl, rfl, SqT.of (f3.tup _ _ (F2.tup _ _ hxs)), atI_nat (List.getElem?_eq_getElem hyl), ?_⟩
      have h60 := hg.c.n60
      refine ⟨_, e3, by rw [List.length_map, List.length_take]; rw [arr_length] at *; exact sz_lt (by omega), f3.fresh hB, ?_⟩
      rw [upd_same, List.take_add_one, hy, List.map_append]
      show _ = some (HO.lst (_ ++ [xs.getD y .non]))
      rw [List.getD_eq_getElem?_getD, List.getElem?_eq_getElem hyl]
      rfl
    · rintro H3 ⟨f3, e3⟩
      rw [vL_length, List.take_length] at e3
      refine ⟨B, _, rfl, .inl ⟨SqL.of e3, fun u hu => ?_⟩⟩
      have F3 : Fr [l] H (upd H3 u (.tup ((arr g.rk g.n).map fun i => xs.getD i .non))) := (F2.trans (f3.mono (fun b hb => by cases hb))).trans (Fr.new hu)
      have nSl : S ≠ l := ne_of_none hS hl
      have hS3 := F3.keep S _ (by simpa using nSl) hS
      have ha3 := (ha2.keep0 f3).keep0 (Fr.new (o := .tup ((arr g.rk g.n).map fun i => xs.getD i .non)) hu)
      refine ⟨_, rfl, S, _, dx, _, rfl, hS3, T.c_Shelf, T.n_Shelf_stood, by show 1 < 1000; decide, ?_⟩
      have nSA : A ≠ S := by
        intro z
        rw [z, hS] at hA
        cases hA
      have F4 : Fr [S] H (upd (upd H3 u (.tup ((arr g.rk g.n).map fun i => xs.getD i .non))) S (.ins (He.ga K "Shelf") dx (putF "stood" (.ref u) [("stood", .ref g.r)]))) := ((F3.mono (ys := [l, S]) (by simp)).trans (Fr.put (p := S) (by simp) hS3 rfl)).drop fun b hb => by
        simp only [List.mem_cons, List.not_mem_nil, or_false] at hb
        rcases hb with rfl | rfl
        · exact .inr hl
        · exact .inl (by simp)
      have ha4 : AskAt K ⟨A, sx, l, g.r, g.o, g.n, g.rk, g.rows, g.ord⟩ (0 + (ordF g.rk g.n f m).2) (upd (upd H3 u (.tup ((arr g.rk g.n).map fun i => xs.getD i .non))) S (.ins (He.ga K "Shelf") dx (putF "stood" (.ref u) [("stood", .ref g.r)]))) := ha3.keep (Fr.put1 hS3 rfl) (by simpa using nSA) (by simpa using nSl.symm)
      refine ⟨_, rfl, A, sx, _, rfl, ha4.hp, rfl, _, _, rfl, ha4, fun v bk H5 hv0 hv hbk f5 => ⟨v, bk, rfl, .inr (SqT.of hv), ?_⟩⟩
      rw [hbk, Nat.zero_add]
      have nSu : S ≠ u := ne_of_none (H := H3) (by
        have := (F2.trans (f3.mono (fun b hb => by cases hb))).keep S _ (by simpa using nSl) hS
        exact this) hu
      refine q u H5 (F4.trans (f5.mono (fun b hb => by cases hb))) ?_ ?_
      · exact f5.keep S _ (by simp) (by rw [upd_same]; rfl)
      · exact f5.tup _ _ (by rw [upd_ne nSu.symm, upd_same])
theorem sc_law_twos : FnScope ["_law_number", "_law_times", "_law_power"] ["_law_number"] (defScope s_law_twos) := ⟨rfl, rfl, rfl, by decide +kernel, rfl, by decide +kernel, by decide +kernel⟩
theorem ok_law_twos (T : Hd K mg) : DOk P w K mg base 1 "_law_twos" ["_law_number"] spTwos := by
  refine mkD T 71 47 rfl rfl sc_law_twos (fun _ _ _ _ _ _ us hl => match us, hl with | [_], _ => rfl) (fun vs H Q E h => ?_) (fun cdv A outer s H vs Q E hr h => ?_)
  · obtain ⟨n, rfl, _⟩ := h; rfl
  · obtain ⟨n, rfl, hn, q⟩ := h
    refine ⟨_, (pss_cons (ps_asg (pe_tup (pa_cons pe_int (pa_cons pe_int pa_nil))) (pg_tup rfl (pgs_cons (pg_name (i := 1) sc_law_twos.nd rfl (Or.inl rfl)) (pgs_cons (pg_name (i := 2) sc_law_twos.nd rfl (Or.inl rfl)) pgs_nil))))
      (pss_cons (ps_while PassesOwn.never (pt_cmpR op_lt (pv 2) (pv 0) (nomark _))
        (pss_one (ps_par (i := 1) (j := 2) (by rfl) sc_law_twos.nd rfl rfl (by decide) rfl rfl (pa_cons (pe_op op_addN (pv 1) pe_int) (pa_cons (pe_op op_mulN (pv 2) pe_int) pa_nil)) (by rfl))))
      (pss_one (ps_ret (pv 1))))), ?_⟩
    refine ⟨by show 2 ≤ sizeLine; decide, fun t ht => ⟨t, _, rfl, SqT.of upd_same, rfl, _, _, rfl, _, _, rfl, rfl, ?_⟩⟩
    have ft : Fr [] H (upd H t (.tup [vI 0, vI 1])) := Fr.new ht
    refine ⟨fun m σ H' => ∃ k : Nat, m = n - 2 ^ k ∧ σ = [some (vI n), some (vI k), some (vI (2 ^ k))] ∧ Fr [] H H' ∧ ∀ u, u < k → 2 ^ u < n, ⟨_, 0, rfl, rfl, ft, fun u hu => absurd hu (Nat.not_lt_zero _)⟩, ?_⟩
    rintro m σ H1 ⟨k, rfl, rfl, f1, hk⟩
    refine ⟨_, rfl, _, rfl, _, _, rfl, rfl, _, rfl, itD (fun lt => ?_) (fun nlt => ?_)⟩
    · have lt : 2 ^ k < n := by omega
      have hp : 2 ^ (k + 1) = 2 ^ k * 2 := Nat.pow_succ 2 k
      have hpos : 0 < 2 ^ k := Nat.two_pow_pos k
      refine ⟨_, fun _ _ h => h, _, rfl, k, 1, rfl, rfl, _, rfl, 2 ^ k, 2, rfl, rfl, by omega, _, _, rfl, ?_⟩
      refine ⟨n - 2 ^ (k + 1), by omega, k + 1, rfl, by rw [hp]; rfl, f1, fun u hu => ?_⟩
      by_cases z : u = k
      · rw [z]; exact lt
      · exact hk u (by omega)
    · have nlt : n ≤ 2 ^ k := by omega
      refine ⟨_, rfl, ?_⟩
      have := q H1 f1
      rw [twos_eq nlt hk] at this
      exact this
theorem sc_law_whole : FnScope ["_law_thing"] ["_law_thing"] (defScope s_law_whole) := ⟨rfl, rfl, rfl, by decide +kernel, rfl, by decide +kernel, by decide +kernel⟩
theorem ok_law_whole (T : Hd K mg) : DOk P w K mg base 1 "_law_whole" ["_law_thing"] spLWhole := by
  refine mkD T 72 48 rfl rfl sc_law_whole (fun _ _ _ _ _ _ us hl => match us, hl with | [_], _ => rfl) (fun vs H Q E h => ?_) (fun cdv A outer s H vs Q E hr h => ?_)
  · obtain ⟨i, rfl, _⟩ := h; rfl
  · obtain ⟨i, rfl, q⟩ := h
    refine ⟨_, (pss_one (ps_ret (pe_and (pe_callB call_isi (by rfl) T.f_isinstance (by decide +kernel) (pa_cons (pv 0) (pa_cons (pe_bltn (v := .ty "int") rfl T.f_int (by decide +kernel) rfl) pa_nil))) (pe_one (pe_not (pe_callB call_isi (by rfl) T.f_isinstance (by decide +kernel) (pa_cons (pv 0) (pa_cons (pe_bltn (v := .ty "bool") rfl T.f_bool (by decide +kernel) rfl) pa_nil)))))))), ?_⟩
    exact ⟨_, rfl, _, _, _, _, true, rfl, .ty "int", .base (.int i), kb_ii, true, rfl, iteT ⟨_, rfl, _, _, _, _, false, rfl, .ty "bool", .base (.int i), kb_ib, false, rfl, q⟩⟩
theorem sc_law_same : FnScope ["_law_told", "_law_arrangement", "_law_x"] ["_law_told", "_law_arrangement"] (defScope s_law_same) := ⟨rfl, rfl, rfl, by decide +kernel, rfl, by decide +kernel, by decide +kernel⟩
theorem ok_law_same (T : Hd K mg) : DOk P w K mg base 2 "_law_same" ["_law_told", "_law_arrangement"] spSame := by
  refine mkD T 73 49 rfl rfl sc_law_same (fun _ _ _ _ _ _ us hl => match us, hl with | [_, _], _ => rfl) (fun vs H Q E h => ?_) (fun cdv A outer s H vs Q E hr h => ?_)
  · obtain ⟨t, a, l, rfl, _⟩ := h; rfl
  · obtain ⟨t, a, l, rfl, ht, hA, hl, q⟩ := h
    refine ⟨_, (pss_one (ps_ret (pe_and (pe_callB call_isi (by rfl) T.f_isinstance (by decide +kernel) (pa_cons (pv 0) (pa_cons (pe_bltn (v := .ty "tuple") rfl T.f_tuple (by decide +kernel) rfl) pa_nil))) (pe_and (pe_callB (cr_all rfl) (by rfl) T.f_all (by decide +kernel) (pa_cons (pe_lc (own := [("_law_x", 2)]) (g := gName 2) (tt := tYes) rfl sc_law_same.nd (pi_tup (pv 0)) (blkOk_by (own := [("_law_x", 2)]) (N := ["_law_told", "_law_arrangement", "_law_x"]) (sc := defScope s_law_same) (by decide +kernel)) (fun _ _ _ _ _ => (pg_name (i := 2) sc_law_same.nd rfl (Or.inl rfl))) (fun _ _ _ _ _ => pts_nil) (fun _ _ _ _ _ => (pe_cd (ok_law_whole T) (hr.mono (by decide)) (pa_cons (pv 2) pa_nil)))) pa_nil)) (pe_one (pe_cmpR (op_eqD hr.units) (pv 0) (pv 1) (nomark _))))))), ?_⟩
    refine ⟨_, rfl, _, _, _, _, true, rfl, .ty "tuple", .base (.tup ht), kb_tt, true, rfl, ?_⟩
    refine ⟨_, rfl, t, rfl, ⟨_, SqT.of ht⟩, fun D hD => lc_it (walk_tup (xs := vL l)) (fun i H' => Fr [] H H' ∧ H' D = some (.lst (List.replicate i (V.bl true)))) ⟨(Fr.refl _ _).fresh hD, upd_same⟩ (fun _ _ _ p => SqT.of (p.1.tup t _ ht)) ?_ ?_⟩
    · rintro i x H1 H2 hi ⟨f, hl1⟩ ⟨rfl, hx⟩
      obtain ⟨y, hy, rfl⟩ := map_get hx
      refine ⟨rfl, ?_⟩
      refine ⟨_, rfl, _, rfl, ?_⟩
      refine ⟨_, hl1, by rw [List.length_replicate]; rw [vL_length] at hi; exact sz_lt (by omega), f.fresh hD, ?_⟩
      rw [upd_same, ← rep_succ]
    · rintro H1 ⟨f, hl1⟩
      refine ⟨D, List.replicate (vL l).length true, rfl, by rw [← rep_map]; exact SqL.of hl1, ?_⟩
      rw [all_true]
      refine ⟨true, rfl, ?_⟩
      refine ⟨_, rfl, _, rfl, eq_tup (f.tup _ _ ht) (f.tup _ _ hA) ?_⟩
      rw [decide_eq_true rfl]
      exact q _ f
theorem sc_law_most : FnScope ["_law_many_here", "_law_fill", "_law_manner", "_law_times", "_law_passes"] ["_law_many_here", "_law_fill", "_law_manner"] (defScope s_law_most) := ⟨rfl, rfl, rfl, by decide +kernel, rfl, by decide +kernel, by decide +kernel⟩
theorem ok_law_most (T : Hd K mg) : DOk P w K mg base 2 "_law_most" ["_law_many_here", "_law_fill", "_law_manner"] spMost := by
  refine mkD T 75 51 rfl rfl sc_law_most (fun _ _ _ _ _ _ us hl => match us, hl with | [_, _, _], _ => rfl) (fun vs H Q E h => ?_) (fun cdv A outer s H vs Q E hr h => ?_)
  · obtain ⟨n, f, m, rfl, _⟩ := h; rfl
  · obtain ⟨n, f, m, rfl, hn, h1, h64, q⟩ := h
    refine ⟨_, (pss_cons (ps_if (pt_cmpR op_eq (pv 0) pe_int (nomark _))
        (pss_one (ps_ret pe_int))
        pss_nil)
      (pss_cons (ps_set (i := 3) sc_law_most.nd rfl (Or.inl rfl) (pe_op op_addN pe_int (pe_callTy call_int1 (by rfl) T.f_int (by decide +kernel) (pa_cons (pe_cmpR op_eq (pv 2) pe_str (nomark _)) pa_nil))))
      (pss_cons (ps_set (i := 4) sc_law_most.nd rfl (Or.inl rfl) (pe_cd (ok_law_twos T) (hr.mono (by decide)) (pa_cons (pe_op op_fdivNN (pe_op op_addN (pe_op op_mulN pe_int (pv 0)) (pv 1)) (pe_op op_addN (pv 1) pe_int)) pa_nil)))
      (pss_one (ps_ret (pe_op op_addN (pe_op op_mulN (pe_op op_subN (pv 0) pe_int) (pe_op op_addN pe_int (pe_cd (ok_law_twos T) (hr.mono (by decide)) (pa_cons (pv 1) pa_nil)))) (pe_op op_mulN (pe_op op_mulN (pv 3) (pv 0)) (pv 4)))))))), ?_⟩
    unfold mostF at q
    refine ⟨_, rfl, rfl, _, rfl, itD (fun z => ?_) (fun nz => ?_)⟩
    · have z : n = 0 := by injection z with z; omega
      have := q H (Fr.refl _ _)
      rw [if_pos z] at this
      exact this
    · have nz : n ≠ 0 := fun z => nz (by rw [z]; rfl)
      rw [if_neg nz] at q
      refine ⟨_, rfl, rfl, .inr ⟨_, rfl, ?_⟩⟩
      rw [man_eq, show (if m = true then (1 : Int) else 0) = ((wt m - 1 : Nat) : Int) by cases m <;> rfl]
      refine ⟨1, wt m - 1, rfl, rfl, ?_⟩
      rw [show 1 + (wt m - 1) = wt m by cases m <;> rfl]
      have hdv : (2 * n + f) / (f + 1) ≤ 2 * n + f := Nat.div_le_self _ _
      refine ⟨_, rfl, 2, n, rfl, rfl, by decide, _, rfl, 2 * n, f, rfl, rfl, _, rfl, f, 1, rfl, rfl, 2 * n + f, f + 1, rfl, rfl, by omega, (2 * n + f) / (f + 1), rfl, by omega, fun H1 f1 => ?_⟩
      refine ⟨_, rfl, n, 1, rfl, rfl, by omega, _, rfl, f, rfl, by omega, fun H2 f2 => ?_⟩
      refine ⟨1, twos f, rfl, rfl, n - 1, 1 + twos f, rfl, rfl, by omega, ?_⟩
      have hw : wt m ≤ 2 := by cases m <;> decide
      have hwn : wt m * n ≤ 2 * 60 := Nat.mul_le_mul hw hn
      refine ⟨_, rfl, _, rfl, wt m, n, rfl, rfl, by omega, _, rfl, wt m * n, twos ((2 * n + f) / (f + 1)), rfl, rfl, by omega, ?_⟩
      exact ⟨(n - 1) * (1 + twos f), wt m * n * twos ((2 * n + f) / (f + 1)), rfl, rfl, q H2 (f1.trans f2)⟩
end
end NR

set_option maxRecDepth 100000
set_option maxHeartbeats 4000000
/-! The law's ways: put in; by runs. -/
namespace NR
open PySem PySem.Spec PyProof.Rows L2 NM
section
variable {X : Cx}
theorem op_subI : OpR X (binaryOp .Sub) (rI0 fun i j => .int (i - j)) := op_sub
theorem op_mulI : OpR X (binaryOp .Mult) (rI CMul fun i j => .int (i * j)) := op_mul
theorem op_fdivI : OpR X (binaryOp .FloorDiv) (rI CDiv fun i j => .int (i / j)) := op_fdiv
theorem op_addI : OpR X (binaryOp .Add) (rI0 fun i j => .int (i + j)) := op_add
end
/-! ### things compared -/
def dK : Key → PyData
  | .inl i => .int i
  | .inr z => .str z
theorem dp_key {K : PySem.W.Frag} {H : Hp} (k : Key) : Dp K H (kV k) (dK k) := by
  cases k with
  | inl i => exact .int i
  | inr z => exact .str z
theorem dp_keys {K : PySem.W.Frag} {H : Hp} : ∀ t : Thing, DpAll K H (t.map kV) (t.map dK)
  | [] => .nil
  | k :: t => .cons (dp_key k) (dp_keys t)
theorem letters_lt : ∀ c ∈ letters.cps.toList, c < 0x110000 := by decide +kernel
theorem key_lay {k : Key} (h : KeyOk k) : PyData.canLay0 (dK k) = true := by
  cases k with
  | inl i => rfl
  | inr z =>
    obtain ⟨_, _, h3⟩ := h
    show (z.cps.all fun c => decide (c < 0x110000)) = true
    rw [← Array.all_toList]
    exact List.all_eq_true.mpr fun c hc => decide_eq_true (letters_lt c (h3 c hc))
theorem keys_lay : ∀ t : Thing, (∀ k ∈ t, KeyOk k) → PyData.canLayAll0 (t.map dK) = true ∧ PyData.depthAll (t.map dK) = 0
  | [], _ => ⟨rfl, rfl⟩
  | k :: t, h => by
    obtain ⟨h1, h2⟩ := keys_lay t fun k hk => h k (List.mem_cons_of_mem _ hk)
    constructor
    · show (PyData.canLay0 (dK k) && PyData.canLayAll0 (t.map dK)) = true
      rw [h1, key_lay (h k List.mem_cons_self)]
      rfl
    · show max (PyData.depth (dK k)) (PyData.depthAll (t.map dK)) = 0
      rw [h2]
      cases k <;> rfl
theorem things_dp {K : PySem.W.Frag} {H : Hp} : ∀ vs : List V, (∀ v ∈ vs, ∃ t : Thing, ThAt H v t ∧ ThingOk t) → ∃ ds : List PyData, DpAll K H vs ds ∧ PyData.canLayAll0 ds = true ∧ PyData.depthAll ds ≤ 1
  | [], _ => ⟨[], .nil, rfl, Nat.zero_le _⟩
  | v :: vs, h => by
    obtain ⟨ds, h1, h2, h3⟩ := things_dp vs fun w hw => h w (List.mem_cons_of_mem _ hw)
    obtain ⟨t, ⟨a, rfl, ha⟩, _, _, ht⟩ := h v List.mem_cons_self
    obtain ⟨k1, k2⟩ := keys_lay t ht
    refine ⟨.tuple (t.map dK) :: ds, .cons (.tup (SqT.of ha) (dp_keys t)) h1, ?_, ?_⟩
    · show (PyData.canLayAll0 (t.map dK) && PyData.canLayAll0 ds) = true
      rw [k1, h2]; rfl
    · show max (PyData.depthAll (t.map dK) + 1) (PyData.depthAll ds) ≤ 1
      omega
theorem eq_things {K : PySem.W.Frag} {H : Hp} {a b : Addr} {vs : List V} {Q : VK} (h1 : H a = some (.tup vs)) (h2 : H b = some (.tup vs)) (hv : ∀ v ∈ vs, ∃ t : Thing, ThAt H v t ∧ ThingOk t) (q : Q (.bl true) H) : rEqD K (.ref a) (.ref b) H Q := by
  obtain ⟨ds, d1, d2, d3⟩ := things_dp (K := K) vs hv
  have sh : SeqAt.shaped (.tuple ds) = true := by
    show (PyData.canLayAll0 ds && decide (PyData.depthAll ds + 1 ≤ 64)) = true
    rw [d2, decide_eq_true (by omega)]; rfl
  refine ⟨.tuple ds, .tuple ds, .tup (SqT.of h1) d1, .tup (SqT.of h2) d1, sh, sh, ?_⟩
  rw [SeqAt.eqv_refl _ (show PyData.canLay0 (.tuple ds) = true from d2)]
  exact q
theorem sum_twos : ∀ n : Nat, ((List.range n).map fun k => ((twos (k + 1) : Nat) : Int)).sum = ((sumTwos n : Nat) : Int)
  | 0 => rfl
  | n + 1 => by
    rw [List.range_succ, List.map_append, List.sum_append, sum_twos n]
    show _ + ([((twos (n + 1) : Nat) : Int)]).sum = ((sumTwos n + twos (n + 1) : Nat) : Int)
    rw [List.sum_cons, List.sum_nil]
    omega
theorem sumTwos_small : ∀ n, sumTwos n ≤ n * n
  | 0 => Nat.le_refl _
  | n + 1 => by
    have := sumTwos_small n
    have h2 := twos_le_self n
    show sumTwos n + twos (n + 1) ≤ (n + 1) * (n + 1)
    have : (n + 1) * (n + 1) = n * n + n + n + 1 := by rw [Nat.add_mul, Nat.mul_add]; omega
    omega
theorem putM_small (b : Bool) (r : Nat → Nat) {n : Nat} (h : n ≤ 60) : (putM b r n).2 ≤ 3600 := by
  have h2 : n * n ≤ 60 * 60 := Nat.mul_le_mul h h
  cases b
  · have := (putP_arr r n).2
    have h3 : n * (n - 1) ≤ n * n := Nat.mul_le_mul (Nat.le_refl _) (by omega)
    show (putP r n).2 ≤ 3600
    omega
  · have := (putH_arr r n).2
    have := sumTwos_small n
    show (putH r n).2 ≤ 3600
    omega
theorem Fr.drop1 {l : Addr} {H H' : Hp} (f : Fr [l] H H') (h : H l = Option.none) : Fr [] H H' := f.drop fun b hb => .inr (by rw [List.mem_singleton.mp hb]; exact h)
theorem Fr.up {xs : List Addr} {H H' : Hp} (f : Fr [] H H') : Fr xs H H' := f.mono fun b hb => by cases hb
theorem row_len {H : Hp} {r : Addr} {rows : List Thing} (h : RowAt H r rows) : ∃ xs : List V, H r = some (.tup xs) ∧ xs.length = rows.length := by
  obtain ⟨xs, h1, h2, _⟩ := h
  exact ⟨xs, h1, h2⟩
def spWay (ex : List V → Prop) : Sp := fun vs H Q _ => ∃ (g : G) (ws : List V), vs = [.ref g.r, .ref g.o, .ref g.a] ++ ws ∧ ex ws ∧ GOk g H ∧ ∀ H', Fr [] H H' → Q (.bl true) H'
section
variable {P : Program} {w : World} {K : PySem.W.Frag} {mg : Str → Option Value} {base : Heap}
theorem sc_law_put_ways : FnScope ["_law_row_here", "_law_order_here", "_law_arrangement", "_law_asker", "_law_k"] ["_law_row_here", "_law_order_here", "_law_arrangement"] (defScope s_law_put_ways) := ⟨rfl, rfl, rfl, by decide +kernel, rfl, by decide +kernel, by decide +kernel⟩
theorem ok_law_put_ways (T : Hd K mg) : DOk P w K mg base 9 "_law_put_ways" ["_law_row_here", "_law_order_here", "_law_arrangement"] (spWay fun ws => ws = []) := by
  refine mkD T 74 50 rfl rfl sc_law_put_ways (fun _ _ _ _ _ _ us hl => match us, hl with | [_, _, _], _ => rfl) (fun vs H Q E h => ?_) (fun cdv A outer s H vs Q E hr h => ?_)
  · obtain ⟨g, ws, rfl, rfl, _⟩ := h; rfl
  · obtain ⟨g, ws, rfl, rfl, hg, q⟩ := h
    refine ⟨_, (pss_cons (ps_set (i := 3) sc_law_put_ways.nd rfl (Or.inl rfl) (pe_mk (ok_Asker_init T) (hr.mono (by decide)) (pa_cons (pv 0) (pa_cons (pv 1) (pa_cons pe_non pa_nil)))))
      (pss_cons (ps_if (pt_not (pt_val (pe_cd (ok_law_same T) (hr.mono (by decide)) (pa_cons (pe_cd (ok_put_in T) (hr.mono (by decide)) (pa_cons (pv 3) (pa_cons pe_str pa_nil))) (pa_cons (pv 2) pa_nil)))))
        (pss_one (ps_ret pe_bl))
        pss_nil)
      (pss_cons (ps_if (pt_cmpR op_gt (pe_callB call_len_seq (by rfl) T.f_len (by decide +kernel) (pa_cons (pe_md0 (ok_Noted_book T) (hr.mono (by decide)) (pv 3)) pa_nil)) (pe_callB (cr_sum rfl) (by rfl) T.f_sum (by decide +kernel) (pa_cons (pe_lc (own := [("_law_k", 4)]) (g := gName 4) (tt := tYes) rfl sc_law_put_ways.nd (pi_range1 (by rfl) T.f_range (pa_cons (pe_callB call_len_seq (by rfl) T.f_len (by decide +kernel) (pa_cons (pv 0) pa_nil)) pa_nil)) (blkOk_by (own := [("_law_k", 4)]) (N := ["_law_row_here", "_law_order_here", "_law_arrangement", "_law_asker", "_law_k"]) (sc := defScope s_law_put_ways) (by decide +kernel)) (fun _ _ _ _ _ => (pg_name (i := 4) sc_law_put_ways.nd rfl (Or.inl rfl))) (fun _ _ _ _ _ => pts_nil) (fun _ _ _ _ _ => (pe_cd (ok_law_twos T) (hr.mono (by decide)) (pa_cons (pe_op op_add (pv 4) pe_int) pa_nil)))) pa_nil)) (nomark _))
        (pss_one (ps_ret pe_bl))
        pss_nil)
      (pss_cons (ps_set (i := 3) sc_law_put_ways.nd rfl (Or.inl rfl) (pe_mk (ok_Asker_init T) (hr.mono (by decide)) (pa_cons (pv 0) (pa_cons (pv 1) (pa_cons pe_non pa_nil)))))
      (pss_cons (ps_if (pt_not (pt_val (pe_cd (ok_law_same T) (hr.mono (by decide)) (pa_cons (pe_cd (ok_put_in T) (hr.mono (by decide)) (pa_cons (pv 3) (pa_cons pe_str pa_nil))) (pa_cons (pv 2) pa_nil)))))
        (pss_one (ps_ret pe_bl))
        pss_nil)
      (pss_one (ps_ret (pe_cmpR op_le (pe_callB call_len_seq (by rfl) T.f_len (by decide +kernel) (pa_cons (pe_md0 (ok_Noted_book T) (hr.mono (by decide)) (pv 3)) pa_nil)) (pe_op op_fdiv (pe_op op_mul (pe_callB call_len_seq (by rfl) T.f_len (by decide +kernel) (pa_cons (pv 0) pa_nil)) (pe_op op_sub (pe_callB call_len_seq (by rfl) T.f_len (by decide +kernel) (pa_cons (pv 0) pa_nil)) pe_int)) pe_int) (nomark _))))))))), ?_⟩
    have h60 := hg.c.n60
    obtain ⟨xs, hxs, hxl⟩ := row_len hg.hr
    have hxn : xs.length = g.n := by rw [hxl, hg.c.len]
    refine ⟨_, rfl, _, rfl, ?_⟩
    intro A sx hA nd ne
    refine ask_at hA nd ne hg.hr hg.ho hg.ok hg.th hg.c fun l H1 hl f1 ha => ?_
    have p1 := putM_small true g.rk h60
    refine ⟨_, rfl, _, 0, true, rfl, ha, by show 0 + (putM true g.rk g.n).2 < 90000; omega, fun t H2 f2 ha2 e2 => ?_⟩
    have F2 : Fr [l] H H2 := f1.up.trans f2
    refine ⟨_, rfl, t, g.a, _, rfl, e2, F2.tup _ _ hg.ha, by show (arr g.rk g.n).length ≤ 1000; rw [arr_length]; omega, fun H3 f3 => ⟨true, rfl, ?_⟩⟩
    have F3 := (F2.trans f3.up).drop1 hl
    have ha3 := ha2.keep0 f3
    refine ⟨_, rfl, A, sx, _, rfl, ha3.hp, rfl, _, _, rfl, ha3, fun v bk H4 hv0 hv hbk f4 => ⟨v, bk, rfl, .inr (SqT.of hv), ?_⟩⟩
    rw [hbk]
    have F4 := F3.trans f4
    refine ⟨_, rfl, g.r, xs, rfl, .inr (SqT.of (F4.tup _ _ hxs)), ?_⟩
    rw [hxn]
    refine ⟨(g.n : Int), rfl, by omega, by omega, fun D hD => lc_it (walk_range0 (n := ((g.n : Nat) : Int).toNat)) (fun i H' => Fr [] H4 H' ∧ H' D = some (.lst ((List.range i).map fun k => V.int ((twos (k + 1) : Nat) : Int)))) ⟨Fr.new hD, upd_same⟩ (fun _ _ _ _ => trivial) ?_ ?_⟩
    · rintro i x H5 H6 hi ⟨f5, e5⟩ ⟨rfl, rfl⟩
      refine ⟨rfl, ?_⟩
      refine ⟨_, rfl, _, _, rfl, rfl, i + 1, rfl, by omega, fun H7 f7 => ?_⟩
      refine ⟨_, f7.keep D _ (by simp) e5, by rw [List.length_map, List.length_range]; exact sz_lt (by omega), (f5.trans f7).fresh hD, ?_⟩
      rw [upd_same, List.range_succ, List.map_append]
      rfl
    · rintro H5 ⟨f5, e5⟩
      rw [Int.toNat_natCast] at e5
      have e5' : H5 D = some (.lst (((List.range g.n).map fun k => ((twos (k + 1) : Nat) : Int)).map V.int)) := by rw [e5, List.map_map]; rfl
      refine ⟨D, _, rfl, SqL.of e5', ?_⟩
      rw [sum_twos]
      have F5 := F4.trans f5
      refine ⟨_, _, rfl, rfl, _, rfl, itD (fun gt => absurd gt ?_) (fun _ => ?_)⟩
      · have := (putH_arr g.rk g.n).2
        have e : (putM true g.rk g.n).2 = (putH g.rk g.n).2 := rfl
        show ¬ ((sumTwos g.n : Nat) : Int) < ((0 + (putM true g.rk g.n).2 : Nat) : Int)
        omega
      have hg5 := hg.keep F5
      refine ⟨_, rfl, _, rfl, ?_⟩
      intro A2 sx2 hA2 nd2 ne2
      refine ask_at hA2 nd2 ne2 hg5.hr hg5.ho hg5.ok hg5.th hg5.c fun l2 H6 hl2 f6 hb => ?_
      have p2 := putM_small false g.rk h60
      refine ⟨_, rfl, _, 0, false, rfl, hb, by show 0 + (putM false g.rk g.n).2 < 90000; omega, fun t2 H7 f7 hb2 e7 => ?_⟩
      have F7 : Fr [l2] H5 H7 := f6.up.trans f7
      refine ⟨_, rfl, t2, g.a, _, rfl, e7, F7.tup _ _ hg5.ha, by show (arr g.rk g.n).length ≤ 1000; rw [arr_length]; omega, fun H8 f8 => ⟨true, rfl, ?_⟩⟩
      have F8 := (F7.trans f8.up).drop1 hl2
      have hb3 := hb2.keep0 f8
      refine ⟨_, rfl, A2, sx2, _, rfl, hb3.hp, rfl, _, _, rfl, hb3, fun v2 bk2 H9 hv20 hv2 hbk2 f9 => ⟨v2, bk2, rfl, .inr (SqT.of hv2), ?_⟩⟩
      rw [hbk2]
      have F9 := F5.trans (F8.trans f9)
      refine ⟨_, rfl, g.r, xs, rfl, .inr (SqT.of (F9.tup _ _ hxs)), _, rfl, g.r, xs, rfl, .inr (SqT.of (F9.tup _ _ hxs)), ?_⟩
      rw [hxn]
      refine ⟨_, _, rfl, rfl, _, _, rfl, rfl, .inl ⟨by omega, by omega⟩, _, _, rfl, rfl, ⟨by decide, by decide⟩, _, _, rfl, rfl, ?_⟩
      have key : (((0 + (putM false g.rk g.n).2 : Nat) : Int)) ≤ (g.n : Int) * ((g.n : Int) - 1) / 2 := by
        have h := (putP_arr g.rk g.n).2
        have e : (putM false g.rk g.n).2 = (putP g.rk g.n).2 := rfl
        rw [Nat.zero_add, e]
        refine (Int.le_ediv_iff_mul_le (by decide)).mpr ?_
        by_cases z : g.n = 0
        · rw [z] at h ⊢
          have : (putP g.rk 0).2 = 0 := rfl
          rw [this]; decide
        · obtain ⟨k, hk⟩ : ∃ k, g.n = k + 1 := ⟨g.n - 1, by omega⟩
          rw [hk] at h ⊢
          rw [Nat.add_sub_cancel] at h
          have h3 : ((2 * (putP g.rk (k + 1)).2 : Nat) : Int) ≤ (((k + 1) * k : Nat) : Int) := Int.ofNat_le.mpr h
          rw [Int.natCast_mul, Int.natCast_mul] at h3
          have e2 : (((k + 1 : Nat) : Int) - 1) = (k : Int) := by omega
          rw [e2]
          omega
      have fin := q H9 F9
      rw [← decide_eq_true key] at fin
      exact fin
theorem sc_law_runs_way : FnScope ["_law_row_here", "_law_order_here", "_law_arrangement", "_law_fill", "_law_manner", "_law_asker", "_law_most_here", "_law_shelf", "_law_asks", "_law_x"] ["_law_row_here", "_law_order_here", "_law_arrangement", "_law_fill", "_law_manner"] (defScope s_law_runs_way) := ⟨rfl, rfl, rfl, by decide +kernel, rfl, by decide +kernel, by decide +kernel⟩
theorem ok_law_runs_way (T : Hd K mg) : DOk P w K mg base 13 "_law_runs_way" ["_law_row_here", "_law_order_here", "_law_arrangement", "_law_fill", "_law_manner"] (spWay fun ws => ∃ (f : Nat) (m : Bool), ws = [vI f, .str (manS m)] ∧ 1 ≤ f ∧ f ≤ 64) := by
  refine mkD T 76 52 rfl rfl sc_law_runs_way (fun _ _ _ _ _ _ us hl => match us, hl with | [_, _, _, _, _], _ => rfl) (fun vs H Q E h => ?_) (fun cdv A outer s H vs Q E hr h => ?_)
  · obtain ⟨g, ws, rfl, ⟨f, m, rfl, _⟩, _⟩ := h; rfl
  · obtain ⟨g, ws, rfl, ⟨f, m, rfl, h1, h64⟩, hg, q⟩ := h
    refine ⟨_, (pss_cons (ps_set (i := 5) sc_law_runs_way.nd rfl (Or.inl rfl) (pe_mk (ok_Asker_init T) (hr.mono (by decide)) (pa_cons (pv 0) (pa_cons (pv 1) (pa_cons pe_non pa_nil)))))
      (pss_cons (ps_set (i := 6) sc_law_runs_way.nd rfl (Or.inl rfl) (pe_cd (ok_law_most T) (hr.mono (by decide)) (pa_cons (pe_callB call_len_seq (by rfl) T.f_len (by decide +kernel) (pa_cons (pv 0) pa_nil)) (pa_cons (pv 3) (pa_cons (pv 4) pa_nil)))))
      (pss_cons (ps_if (PW.pt (pw_or (pt_not (pt_val (pe_cd (ok_law_same T) (hr.mono (by decide)) (pa_cons (pe_cd (ok_ordered T) (hr.mono (by decide)) (pa_cons (pv 5) (pa_cons (pv 3) (pa_cons (pv 4) pa_nil)))) (pa_cons (pv 2) pa_nil))))) (pw_or1 (pt_cmpR op_gt (pe_callB call_len_seq (by rfl) T.f_len (by decide +kernel) (pa_cons (pe_md0 (ok_Noted_book T) (hr.mono (by decide)) (pv 5)) pa_nil)) (pv 6) (nomark _)))))
        (pss_one (ps_ret pe_bl))
        pss_nil)
      (pss_cons (ps_set (i := 7) sc_law_runs_way.nd rfl (Or.inl rfl) (pe_mk (ok_Shelf_init T) (hr.mono (by decide)) (pa_cons (pv 0) pa_nil)))
      (pss_cons (ps_set (i := 8) sc_law_runs_way.nd rfl (Or.inl rfl) (pe_md (ok_Shelf_order T) (hr.mono (by decide)) (pv 7) (pa_cons (pv 1) (pa_cons pe_non (pa_cons (pv 3) (pa_cons (pv 4) pa_nil))))))
      (pss_cons (ps_if (PW.pt (pw_or (pt_not (pt_val (pe_cd (ok_law_whole T) (hr.mono (by decide)) (pa_cons (pv 8) pa_nil)))) (pw_or1 (pt_cmpR op_ne (pv 8) (pe_callB call_len_seq (by rfl) T.f_len (by decide +kernel) (pa_cons (pe_md0 (ok_Noted_book T) (hr.mono (by decide)) (pv 5)) pa_nil)) (nomark _)))))
        (pss_one (ps_ret pe_bl))
        pss_nil)
      (pss_one (ps_ret (pe_cmpR (op_eqD hr.units) (pe_md0 (ok_Shelf_things T) (hr.mono (by decide)) (pv 7)) (pe_callTy call_tuple_of (by rfl) T.f_tuple (by decide +kernel) (pa_cons (pe_lc (own := [("_law_x", 9)]) (g := gName 9) (tt := tYes) rfl sc_law_runs_way.nd (pi_tup (pv 2)) (blkOk_by (own := [("_law_x", 9)]) (N := ["_law_row_here", "_law_order_here", "_law_arrangement", "_law_fill", "_law_manner", "_law_asker", "_law_most_here", "_law_shelf", "_law_asks", "_law_x"]) (sc := defScope s_law_runs_way) (by decide +kernel)) (fun _ _ _ _ _ => (pg_name (i := 9) sc_law_runs_way.nd rfl (Or.inl rfl))) (fun _ _ _ _ _ => pts_nil) (fun _ _ _ _ _ => (pe_ix (ix_tupK (K := K)) (pv 0) (pv 9) (fun _ _ => rfl)))) pa_nil)) (nomark _)))))))))), ?_⟩
    have h60 := hg.c.n60
    obtain ⟨xs, hxs, hxl⟩ := row_len hg.hr
    have hxn : xs.length = g.n := by rw [hxl, hg.c.len]
    have hmost := ordF_most g.rk (n := g.n) m h1
    have hsm := mostF_small m h60 h64
    refine ⟨_, rfl, _, rfl, ?_⟩
    intro A sx hA nd ne
    refine ask_at hA nd ne hg.hr hg.ho hg.ok hg.th hg.c fun l H1 hl f1 ha => ?_
    refine ⟨_, rfl, g.r, xs, rfl, .inr (SqT.of (f1.tup _ _ hxs)), ?_⟩
    rw [hxn]
    refine ⟨_, rfl, _, rfl, g.n, f, m, rfl, h60, h1, h64, fun H2 f2 => ?_⟩
    refine ⟨_, rfl, _, rfl, _, rfl, _, 0, f, m, rfl, ha.keep0 f2, h1, h64, by show 0 + (ordF g.rk g.n f m).2 < 90000; omega, fun t H3 f3 ha3 e3 => ?_⟩
    have F3 : Fr [l] H H3 := (f1.trans f2).up.trans f3
    refine ⟨_, rfl, t, g.a, _, rfl, e3, F3.tup _ _ hg.ha, by show (arr g.rk g.n).length ≤ 1000; rw [arr_length]; omega, fun H4 f4 => ⟨true, rfl, ?_⟩⟩
    have F4 := (F3.trans f4.up).drop1 hl
    have ha4 := ha3.keep0 f4
    refine ⟨_, rfl, A, sx, _, rfl, ha4.hp, rfl, _, _, rfl, ha4, fun v bk H5 hv0 hv hbk f5 => ⟨v, bk, rfl, .inr (SqT.of hv), ?_⟩⟩
    rw [hbk]
    refine ⟨_, rfl, _, _, rfl, rfl, _, rfl, itD (fun gt => absurd gt ?_) (fun _ => ?_)⟩
    · show ¬ ((mostF g.n f m : Nat) : Int) < ((0 + (ordF g.rk g.n f m).2 : Nat) : Int)
      omega
    have F5 := F4.trans f5
    have ha5 := ha4.keep0 f5
    have hg5 := hg.keep F5
    refine ⟨_, rfl, ?_⟩
    intro S sy hS nd2 ne2
    have f0 : Fr [] H5 (upd (upd H5 sy (.own S)) S (.ins (He.ga K "Shelf") sy [])) := (Fr.new nd2).fresh hS
    refine ⟨S, sy, g.r, g.rows, rfl, upd_same, hg5.hr.keep f0, by rw [hg.c.len]; exact h60, hg.th, fun H6 f6 hst => ⟨rfl, ?_⟩⟩
    have F6 : Fr [] H5 H6 := ((f0.up).trans f6).drop1 hS
    have hg6 := hg5.keep F6
    have ha6 := ha5.keep0 F6
    refine ⟨_, rfl, S, sy, _, rfl, hst, rfl, _, rfl, _, rfl, _, rfl, S, sy, g, xs, f, m, rfl, hst, hg6, (F5.trans F6).tup _ _ hxs, h1, h64, by omega, fun b H7 f7 hst7 e7 => ?_⟩
    have hS5 : S ∉ [A] := by
      intro z
      rw [List.mem_singleton.mp z, ha5.hp] at hS
      cases hS
    have nSl : l ≠ S := by
      obtain ⟨bk5, z5, _⟩ := ha5.hl
      exact ne_of_none z5 hS
    have nSA : A ≠ S := fun z => hS5 (by simp [z])
    have ha7 := ha6.keep f7 (by simpa using nSA) (by simpa using nSl)
    have F7 : Fr [] H H7 := F5.trans (((F6.up).trans f7).drop1 hS)
    refine ⟨_, rfl, _, rfl, true, rfl, ?_⟩
    refine ⟨_, rfl, _, rfl, A, sx, _, rfl, ha7.hp, rfl, _, _, rfl, ha7, fun v2 bk2 H8 hv20 hv2 hbk2 f8 => ⟨v2, bk2, rfl, .inr (SqT.of hv2), ?_⟩⟩
    rw [hbk2]
    refine ⟨rfl, _, rfl, ?_⟩
    show if (!decide (vI (ordF g.rk g.n f m).2 = V.int ((0 + (ordF g.rk g.n f m).2 : Nat) : Int))) = true then _ else _
    rw [Nat.zero_add, decide_eq_true rfl]
    have F8 := F7.trans f8
    have hst8 : stF K S sy b H8 := f8.keep S _ (by simp) hst7
    refine ⟨_, rfl, S, sy, _, rfl, hst8, rfl, S, sy, b, rfl, hst8, ?_⟩
    have hA8 := F8.tup _ _ hg.ha
    refine ⟨_, rfl, g.a, rfl, ⟨_, SqT.of hA8⟩, fun B hB => lc_it (walk_tup (xs := vL (arr g.rk g.n))) (fun i H' => Fr [] H8 H' ∧ H' B = some (.lst (((arr g.rk g.n).take i).map fun i => xs.getD i .non))) ⟨Fr.new hB, upd_same⟩ (fun _ _ _ p => SqT.of (p.1.tup _ _ hA8)) ?_ ?_⟩
    · rintro i x H9 H10 hi ⟨f9, e9⟩ ⟨rfl, hx⟩
      obtain ⟨y, hy, rfl⟩ := map_get hx
      rw [vL_length] at hi
      have hyn : y < g.n := arr_mem.mp (List.mem_of_getElem? hy)
      have hyl : y < xs.length := by rw [hxn]; exact hyn
      refine ⟨rfl, ?_⟩
      refine ⟨_, rfl, _, rfl, g.r, xs, _, _, rfl, rfl, SqT.of ((F8.trans f9).tup _ _ hxs), atI_nat (List.getElem?_eq_getElem hyl), ?_⟩
      refine ⟨_, e9, by rw [List.length_map, List.length_take]; rw [arr_length] at *; exact sz_lt (by omega), f9.fresh hB, ?_⟩
      rw [upd_same, List.take_add_one, hy, List.map_append]
      show _ = some (HO.lst (_ ++ [xs.getD y .non]))
      rw [List.getD_eq_getElem?_getD, List.getElem?_eq_getElem hyl]
      rfl
    · rintro H9 ⟨f9, e9⟩
      rw [vL_length, List.take_length] at e9
      refine ⟨B, _, rfl, .inl ⟨SqL.of e9, fun u hu => ?_⟩⟩
      have fu := f9.trans (Fr.new (o := .tup ((arr g.rk g.n).map fun i => xs.getD i .non)) hu)
      have e7' := (f8.trans fu).tup _ _ e7
      refine eq_things e7' upd_same (fun v hv => ?_) (q _ (F8.trans fu))
      obtain ⟨y, hy, rfl⟩ := List.mem_map.mp hv
      have hyn : y < g.n := arr_mem.mp hy
      obtain ⟨t, ht⟩ := get_ex (show y < g.rows.length by rw [hg.c.len]; exact hyn)
      obtain ⟨ys, x, w1, w2, w3⟩ := (hg.keep (F8.trans fu)).hr.get ht
      rw [(F8.trans fu).tup _ _ hxs] at w1
      injection w1 with w1
      injection w1 with w1
      subst w1
      refine ⟨t, ?_, hg.th t (List.mem_of_getElem? ht)⟩
      rw [List.getD_eq_getElem?_getD, w2]
      exact w3
end
end NR

set_option maxRecDepth 100000
set_option maxHeartbeats 4000000
/-! The row parted; the lines' way. -/
namespace NR
open PySem PySem.Spec PyProof.Rows L2 NM
/-! ### plain: parts -/
def prt (l : List Nat) (s e : Nat) : List Nat := l.filter fun x => decide (s ≤ x) && decide (x < e)
def pts (l : List Nat) (a b c n : Nat) : List (List Nat) := [prt l 0 a, prt l a b, prt l b c, prt l c n]
theorem prt_mem {l : List Nat} {s e x : Nat} : x ∈ prt l s e ↔ x ∈ l ∧ s ≤ x ∧ x < e := by
  unfold prt
  rw [List.mem_filter, Bool.and_eq_true, decide_eq_true_eq, decide_eq_true_eq]
theorem prt_split (s m e : Nat) (h1 : s ≤ m) (h2 : m ≤ e) : ∀ l : List Nat, (prt l s e).Perm (prt l s m ++ prt l m e)
  | [] => List.Perm.refl _
  | x :: l => by
    have ih := prt_split s m e h1 h2 l
    unfold prt at *
    rw [List.filter_cons, List.filter_cons, List.filter_cons]
    by_cases a : s ≤ x ∧ x < m
    · rw [if_pos (by simp; omega), if_pos (by simp; omega), if_neg (by simp; omega)]
      exact (List.perm_cons x).mpr ih
    · by_cases b : m ≤ x ∧ x < e
      · rw [if_pos (by simp; omega), if_neg (by simp; omega), if_pos (by simp; omega)]
        exact ((List.perm_cons x).mpr ih).trans List.perm_middle.symm
      · rw [if_neg (by simp; omega), if_neg (by simp; omega), if_neg (by simp; omega)]
        exact ih
theorem prt_all {l : List Nat} {n : Nat} (h : ∀ x ∈ l, x < n) : prt l 0 n = l := by
  unfold prt
  exact List.filter_eq_self.mpr fun x hx => by simp [h x hx]
theorem pts_perm {l : List Nat} {a b c n : Nat} (h : ∀ x ∈ l, x < n) (h1 : a ≤ b) (h2 : b ≤ c) (h3 : c ≤ n) : l.Perm (pts l a b c n).flatten := by
  have e : (pts l a b c n).flatten = prt l 0 a ++ (prt l a b ++ (prt l b c ++ prt l c n)) := by
    unfold pts
    simp only [List.flatten_cons, List.flatten_nil, List.append_nil]
  rw [e]
  have s1 := prt_split 0 a n (Nat.zero_le _) (by omega) l
  rw [prt_all h] at s1
  exact s1.trans ((List.Perm.append_left _ ((prt_split a b n h1 (by omega) l).trans (List.Perm.append_left _ (prt_split b c n h2 h3 l)))))
theorem pts_get (l : List Nat) (a b c n i : Nat) (h : i < 4) : ∃ s e, (pts l a b c n).getD i [] = prt l s e ∧ [0, a, b, c].getD i 0 = s ∧ [a, b, c, n].getD i 0 = e := by
  match i, h with
  | 0, _ => exact ⟨_, _, rfl, rfl, rfl⟩
  | 1, _ => exact ⟨_, _, rfl, rfl, rfl⟩
  | 2, _ => exact ⟨_, _, rfl, rfl, rfl⟩
  | 3, _ => exact ⟨_, _, rfl, rfl, rfl⟩
theorem pts_ok {r : Nat → Nat} {l : List Nat} {a b c n : Nat} (hl : l.Pairwise (ah r)) (h1 : a ≤ b) (h2 : b ≤ c) : LinesOk r false (pts l a b c n) := by
  refine ⟨fun i hi => ?_, fun i j hij hj x hx y hy => ?_⟩
  · obtain ⟨s, e, h, _⟩ := pts_get l a b c n i hi
    rw [h]
    unfold prt bt
    exact hl.sublist List.filter_sublist
  · have hj : j < 4 := hj
    obtain ⟨s, e, g1, _, g3⟩ := pts_get l a b c n i (by omega)
    obtain ⟨s', e', k1, k2, _⟩ := pts_get l a b c n j hj
    rw [g1] at hx
    rw [k1] at hy
    have hx := (prt_mem.mp hx).2
    have hy := (prt_mem.mp hy).2
    have : e ≤ s' := by
      rw [← g3, ← k2]
      have hi3 : i = 0 ∨ i = 1 ∨ i = 2 := by omega
      have hj3 : j = 1 ∨ j = 2 ∨ j = 3 := by omega
      rcases hi3 with rfl | rfl | rfl <;> rcases hj3 with rfl | rfl | rfl <;> first | omega | exact Nat.le_refl _ | exact h1 | exact h2 | exact Nat.le_trans h1 h2
    omega
/-- three sorted cuts -/
theorem three {l : List Nat} (h : l.length = 3) : ∃ a b c, l = [a, b, c] := by
  match l, h with
  | [a, b, c], _ => exact ⟨a, b, c, rfl⟩
theorem take_prt (l : List Nat) (s e i : Nat) (x : Nat) (h : l[i]? = some x) : prt (l.take (i + 1)) s e = prt (l.take i) s e ++ (if s ≤ x ∧ x < e then [x] else []) := by
  unfold prt
  rw [List.take_add_one, h, List.filter_append]
  congr 1
  show List.filter _ [x] = _
  rw [List.filter_cons]
  by_cases z : s ≤ x ∧ x < e
  · rw [if_pos z, if_pos (by simp; omega)]; rfl
  · rw [if_neg z, if_neg (by simp; omega)]; rfl
def spParts : Sp := fun vs H Q _ => ∃ (a xa : Addr) (l zs : List Nat), vs = [.ref a, .ref xa] ∧ H a = some (.tup (vL l)) ∧ H xa = some (.lst (vL zs)) ∧ 3 ≤ zs.length ∧ zs.length ≤ 1000 ∧ l.length ≤ 60 ∧
  ∀ (t : Addr) (H' : Hp) (x y z : Nat), x ≤ y → y ≤ z → z ≤ l.length → Fr [] H H' → LinesAt H' t (pts l x y z l.length) → Q (.ref t) H'
section
variable {P : Program} {w : World} {K : PySem.W.Frag} {mg : Str → Option Value} {base : Heap}
theorem sc_law_parts : FnScope ["_law_arrangement", "_law_xs", "_law_many_here", "_law_cuts", "_law_x", "_law_some", "_law_start", "_law_end"] ["_law_arrangement", "_law_xs"] (defScope s_law_parts) := ⟨rfl, rfl, rfl, by decide +kernel, rfl, by decide +kernel, by decide +kernel⟩
theorem ok_law_parts (T : Hd K mg) : DOk P w K mg base 1 "_law_parts" ["_law_arrangement", "_law_xs"] spParts := by
  refine mkD T 77 53 rfl rfl sc_law_parts (fun _ _ _ _ _ _ us hl => match us, hl with | [_, _], _ => rfl) (fun vs H Q E h => ?_) (fun cdv A outer s H vs Q E hr h => ?_)
  · obtain ⟨a, xa, l, zs, rfl, _⟩ := h; rfl
  · obtain ⟨a, xa, l, zs, rfl, hA, hX, h3, hz, h60, q⟩ := h
    refine ⟨_, (pss_cons (ps_set (i := 2) sc_law_parts.nd rfl (Or.inr rfl) (pe_callB call_len_seq (by rfl) T.f_len (by decide +kernel) (pa_cons (pv 0) pa_nil)))
      (pss_cons (ps_set (i := 3) sc_law_parts.nd rfl (Or.inl rfl) (pe_callB cr_sorted (by rfl) T.f_sorted (by decide +kernel) (pa_cons (pe_lc (own := [("_law_x", 4)]) (g := gName 4) (tt := tYes) rfl sc_law_parts.nd (pi_list (pe_slice sl_list (pv 1) po_none (po_some pe_int))) (blkOk_by (own := [("_law_x", 4)]) (N := ["_law_arrangement", "_law_xs", "_law_many_here", "_law_cuts", "_law_x", "_law_some", "_law_start", "_law_end"]) (sc := defScope s_law_parts) (by decide +kernel)) (fun _ _ _ _ _ => (pg_name (i := 4) sc_law_parts.nd rfl (Or.inl rfl))) (fun _ _ _ _ _ => pts_nil) (fun _ _ _ _ _ => (pe_op op_mod (pv 4) (pe_op op_add (pv 2) pe_int)))) pa_nil)))
      (pss_cons (ps_set (i := 5) sc_law_parts.nd rfl (Or.inl rfl) (pe_lst pa_nil))
      (pss_cons (ps_for PassesOwn.never rfl (pi_zip (by rfl) T.f_zip (pa_cons (pe_op op_cat (pe_lst (pa_cons pe_int pa_nil)) (pv 3)) (pa_cons (pe_op op_cat (pv 3) (pe_lst (pa_cons (pv 2) pa_nil))) pa_nil))) (pg_tup rfl (pgs_cons (pg_name (i := 6) sc_law_parts.nd rfl (Or.inr rfl)) (pgs_cons (pg_name (i := 7) sc_law_parts.nd rfl (Or.inr rfl)) pgs_nil)))
        (pss_one (ps_expr (pe_bm PySem.F.plainAttrs_list PySem.F.slot_list_append PySem.F.type_list_append mt_append (pv 5) (pa_cons (pe_callTy call_tuple_of (by rfl) T.f_tuple (by decide +kernel) (pa_cons (pe_lc (own := [("_law_x", 4)]) (g := gName 4) rfl sc_law_parts.nd (pi_tup (pv 0)) (blkOk_by (own := [("_law_x", 4)]) (N := ["_law_arrangement", "_law_xs", "_law_many_here", "_law_cuts", "_law_x", "_law_some", "_law_start", "_law_end"]) (sc := defScope s_law_parts) (by decide +kernel)) (fun _ _ _ _ _ => (pg_name (i := 4) sc_law_parts.nd rfl (Or.inl rfl))) (fun _ _ _ _ _ => (pts_one (pt_chain op_le op_lt (pv 6) (pv 4) (pv 7)))) (fun _ _ _ _ _ => (pv 4))) pa_nil)) pa_nil)))))
      (pss_one (ps_ret (pe_callTy call_tuple_of (by rfl) T.f_tuple (by decide +kernel) (pa_cons (pv 5) pa_nil)))))))), ?_⟩
    refine ⟨_, rfl, a, _, rfl, .inr (SqT.of hA), ?_⟩
    rw [vL_length]
    refine ⟨_, rfl, _, rfl, xa, _, rfl, SqL.of hX, fun B hB => ?_⟩
    have eB : upd H B (.lst (cutV (vL zs) none (some 3))) B = some (.lst (vL (zs.take 3))) := by
      rw [upd_same, show (3 : Int) = ((3 : Nat) : Int) from rfl, cut_to _ _ (by rw [vL_length]; exact h3), vL_take]
    have fB : Fr [] H (upd H B (.lst (cutV (vL zs) none (some 3)))) := Fr.new hB
    have hl3 : (zs.take 3).length = 3 := by rw [List.length_take]; omega
    refine ⟨B, rfl, ⟨_, SqL.of eB⟩, fun C hC => lc_it (walk_list (xs := vL (zs.take 3))) (fun i H' => Fr [] (upd H B (.lst (cutV (vL zs) none (some 3)))) H' ∧ H' C = some (.lst (vL (((zs.take 3).take i).map fun z => z % (l.length + 1))))) ⟨Fr.new hC, upd_same⟩ (fun _ _ _ p => SqL.of (p.1.keep B _ (by simp) eB)) ?_ ?_⟩
    · rintro i x H1 H2 hi ⟨f, e⟩ ⟨rfl, hx⟩
      obtain ⟨y, hy, rfl⟩ := map_get hx
      refine ⟨rfl, ?_⟩
      refine ⟨_, rfl, _, rfl, _, _, rfl, rfl, _, _, rfl, rfl, by omega, ?_⟩
      refine ⟨_, e, by rw [vL_length, List.length_map, List.length_take]; exact sz_lt (by omega), f.fresh hC, ?_⟩
      rw [upd_same, List.take_add_one (i := i), hy, List.map_append, ← vL_append]
      congr 3
    · rintro H1 ⟨f1, e1⟩
      have F1 := fB.trans f1
      rw [vL_length, List.take_length] at e1
      rw [vL_ints] at e1
      refine ⟨C, _, rfl, SqL.of e1, by rw [List.length_map, List.length_map]; omega, fun ns U hp hw hU => ?_⟩
      obtain ⟨m, rfl, p1, p2⟩ := vL_nats _ ns hp hw
      have hm3 : m.length = 3 := by rw [p1.length_eq, List.length_map]; exact hl3
      obtain ⟨x, y, z, rfl⟩ := three hm3
      have le : ∀ v ∈ [x, y, z], v ≤ l.length := fun v hv => by
        obtain ⟨u, _, rfl⟩ := List.mem_map.mp (p1.subset hv)
        have := Nat.mod_lt u (show 0 < l.length + 1 by omega)
        omega
      have hxy : x ≤ y := (List.pairwise_cons.mp p2).1 y (by simp)
      have hyz : y ≤ z := (List.pairwise_cons.mp (List.pairwise_cons.mp p2).2).1 z (by simp)
      have hzn : z ≤ l.length := le z (by simp)
      have fU : Fr [] H (upd H1 U (.lst (([x, y, z].map fun n : Nat => (n : Int)).map V.int))) := F1.trans (Fr.new hU)
      have eU : upd H1 U (.lst (([x, y, z].map fun n : Nat => (n : Int)).map V.int)) U = some (.lst (vL [x, y, z])) := by rw [upd_same, vL_ints]
      refine ⟨Nat.zero_le _, fun L hL => ?_⟩
      have fL : Fr [] H (upd (upd H1 U (.lst (([x, y, z].map fun n : Nat => (n : Int)).map V.int))) L (.lst [])) := fU.trans (Fr.new hL)
      have hL0 := fU.none (by simp) hL
      have eU2 := (Fr.new (xs := []) (o := .lst []) hL).keep U _ (by simp) eU
      have eL2 : upd (upd H1 U (.lst (([x, y, z].map fun n : Nat => (n : Int)).map V.int))) L (.lst []) L = _ := upd_same
      generalize upd (upd H1 U (.lst (([x, y, z].map fun n : Nat => (n : Int)).map V.int))) L (.lst []) = H2 at fL eU2 eL2
      refine ⟨by show 1 ≤ sizeLine; decide, fun b1 hb1 => ?_⟩
      have g1 : Fr [] H2 (upd H2 b1 (.lst [vI 0])) := Fr.new hb1
      have eb1 : upd H2 b1 (.lst [vI 0]) b1 = some (.lst (vL [0])) := upd_same
      refine ⟨_, rfl, b1, U, _, _, rfl, rfl, eb1, g1.keep U _ (by simp) eU2, by rw [vL_length, vL_length]; exact sz_small (by show (1 + 3 : Nat) ≤ 100000; decide), fun z1 hz1 => ?_⟩
      have nL1 : L ≠ z1 := ne_of_none (g1.keep L _ (by simp) eL2) hz1
      rw [vL_append] at *
      have g2 := g1.trans (Fr.new (o := .lst (vL ([0] ++ [x, y, z]))) hz1)
      have ez1 : upd (upd H2 b1 (.lst [vI 0])) z1 (.lst (vL ([0] ++ [x, y, z]))) z1 = some (.lst (vL [0, x, y, z])) := upd_same
      generalize upd (upd H2 b1 (.lst [vI 0])) z1 (.lst (vL ([0] ++ [x, y, z]))) = H3 at g2 ez1
      refine ⟨_, rfl, _, rfl, by show 1 ≤ sizeLine; decide, fun b2 hb2 => ?_⟩
      have g3 := g2.trans (Fr.new (o := .lst [vI l.length]) hb2)
      have eb2 : upd H3 b2 (.lst [vI l.length]) b2 = some (.lst (vL [l.length])) := upd_same
      have ez1' := (Fr.new (xs := []) (o := .lst [vI l.length]) hb2).keep z1 _ (by simp) ez1
      refine ⟨U, b2, _, _, rfl, rfl, g3.keep U _ (by simp) eU2, eb2, by rw [vL_length, vL_length]; exact sz_small (by show (3 + 1 : Nat) ≤ 100000; decide), fun z2 hz2 => ?_⟩
      have nL2 : L ≠ z2 := ne_of_none (g3.keep L _ (by simp) eL2) hz2
      have g4 := g3.trans (Fr.new (o := .lst (vL [x, y, z] ++ vL [l.length])) hz2)
      have ez2 : upd (upd H3 b2 (.lst [vI l.length])) z2 (.lst (vL [x, y, z] ++ vL [l.length])) z2 = some (.lst (vL [x, y, z, l.length])) := by rw [upd_same, vL_append]; rfl
      have ez1'' := (Fr.new (xs := []) (o := .lst (vL [x, y, z] ++ vL [l.length])) hz2).keep z1 _ (by simp) ez1'
      generalize upd (upd H3 b2 (.lst [vI l.length])) z2 (.lst (vL [x, y, z] ++ vL [l.length])) = H4 at g4 ez2 ez1''
      have F4 := fL.trans g4
      have eL4 := g4.keep L _ (by simp) eL2
      refine ⟨z1, z2, _, _, rfl, SqL.of ez1'', SqL.of ez2, for_it (walk_zip (xs := vL [0, x, y, z]) (ys := vL [x, y, z, l.length]) (n := 4) rfl) (fun i σ H' => Fr [L] H4 H' ∧ (∃ v4 v6 v7, σ = [some (.ref a), some (.ref xa), some (vI l.length), some (.ref U), v4, some (.ref L), v6, v7]) ∧ ∃ vs : List V, H' L = some (.lst vs) ∧ vs.length = i ∧ ∀ j, j < i → ∃ b : Addr, vs[j]? = some (.ref b) ∧ H' b = some (.tup (vL ((pts l x y z l.length).getD j [])))) ⟨Fr.refl _ _, ⟨_, _, _, rfl⟩, [], eL4, rfl, fun j hj => absurd hj (Nat.not_lt_zero _)⟩ (fun _ _ _ _ p => ⟨SqL.of (p.1.keep z1 _ ?_ ez1''), SqL.of (p.1.keep z2 _ ?_ ez2)⟩) ?_ ?_⟩
      · simpa using nL1.symm
      · simpa using nL2.symm
      · rintro i v σ H5 H6 hi ⟨f5, ⟨v4, v6, v7, rfl⟩, vs, e5, hl5, hj5⟩ ⟨T2, x', y', rfl, hT2, rfl, hx', hy'⟩
        obtain ⟨s1, s2, k1, k2, k3⟩ := pts_get l x y z l.length i hi
        obtain ⟨u1, hu1, rfl⟩ := map_get hx'
        obtain ⟨u2, hu2, rfl⟩ := map_get hy'
        have w1 : u1 = s1 := by rw [← k2, List.getD_eq_getElem?_getD, hu1]; rfl
        have w2 : u2 = s2 := by rw [← k3, List.getD_eq_getElem?_getD, hu2]; rfl
        subst w1 w2
        refine ⟨T2, _, rfl, SqT.of upd_same, rfl, _, _, rfl, _, _, rfl, rfl, ?_⟩
        have nLT : L ≠ T2 := ne_of_none e5 hT2
        have fT : Fr [] H5 (upd H5 T2 (.tup [vI u1, vI u2])) := Fr.new hT2
        have e6 := fT.keep L _ (by simp) e5
        generalize upd H5 T2 (.tup [vI u1, vI u2]) = H6 at fT e6
        have hA6 := fT.tup _ _ (f5.tup _ _ (F4.tup _ _ hA))
        refine ⟨_, rfl, .inl ⟨rfl, _, SqL.of e6⟩, ?_⟩
        refine ⟨_, rfl, a, rfl, ⟨_, SqT.of hA6⟩, fun D hD => lc_it (walk_tup (xs := vL l)) (fun i H' => Fr [] H6 H' ∧ H' D = some (.lst (vL (prt (l.take i) u1 u2)))) ⟨Fr.new hD, upd_same⟩ (fun _ _ _ p => SqT.of (p.1.tup _ _ hA6)) ?_ ?_⟩
        · rintro k v H7 H8 hk ⟨f7, e7⟩ ⟨rfl, hx⟩
          obtain ⟨w, hw, rfl⟩ := map_get hx
          rw [vL_length] at hk
          have tk := take_prt l u1 u2 k w hw
          refine ⟨rfl, ?_⟩
          have hlen : (prt (l.take k) u1 u2).length ≤ 60 := Nat.le_trans (List.length_filter_le _ _) (by rw [List.length_take]; omega)
          refine ⟨_, rfl, _, rfl, _, _, rfl, rfl, _, rfl, itD (fun a1 => ?_) (fun a1 => ?_)⟩
          · refine ⟨_, rfl, _, _, rfl, rfl, _, rfl, itD (fun a2 => ?_) (fun a2 => ?_)⟩
            · rw [if_pos (by omega)] at tk
              refine ⟨_, rfl, _, e7, by rw [vL_length]; exact sz_lt (by omega), f7.fresh hD, ?_⟩
              rw [upd_same, tk, ← vL_append]
              rfl
            · rw [if_neg (by omega), List.append_nil] at tk
              exact ⟨f7, by rw [tk]; exact e7⟩
          · rw [if_neg (by omega), List.append_nil] at tk
            exact ⟨_, rfl, f7, by rw [tk]; exact e7⟩
        · rintro H7 ⟨f7, e7⟩
          rw [vL_length, List.take_length] at e7
          refine ⟨D, _, rfl, .inl ⟨SqL.of e7, fun t ht => ?_⟩⟩
          have ft := f7.trans (Fr.new (o := .tup (vL (prt l u1 u2))) ht)
          have et : upd H7 t (.tup (vL (prt l u1 u2))) t = _ := upd_same
          have eLt := ft.keep L _ (by simp) e6
          have nLt : L ≠ t := ne_of_none (f7.keep L _ (by simp) e6) ht
          refine ⟨L, vs, _, rfl, rfl, eLt, sz_lt (by omega), ?_⟩
          have fend := (fT.trans ft).up.trans (Fr.put1 (p := L) (o := .lst (vs ++ [.ref t])) eLt rfl)
          refine ⟨f5.trans fend, ⟨_, _, _, rfl⟩, _, upd_same, by rw [List.length_append, hl5]; rfl, fun j hj => ?_⟩
          by_cases q : j = i
          · subst q
            refine ⟨t, by rw [List.getElem?_append_right (by omega), hl5, Nat.sub_self]; rfl, ?_⟩
            rw [k1, upd_ne nLt.symm]
            exact et
          · obtain ⟨b, b1, b2⟩ := hj5 j (by omega)
            exact ⟨b, by rw [List.getElem?_append_left (by omega)]; exact b1, fend.tup _ _ b2⟩
      · rintro σ H5 ⟨f5, ⟨v4, v6, v7, rfl⟩, vs, e5, hl5, hj5⟩
        refine ⟨_, rfl, L, _, rfl, .inl ⟨SqL.of e5, fun t ht => ?_⟩⟩
        have fe := f5.trans (Fr.new (o := .tup vs) ht)
        refine q t _ x y z hxy hyz hzn ((F4.up.trans fe).drop1 hL0) ⟨vs, upd_same, hl5, fun i hi => ?_⟩
        obtain ⟨b, b1, b2⟩ := hj5 i hi
        exact ⟨b, b1, (Fr.new (xs := []) (o := .tup vs) ht).tup _ _ b2⟩
end
end NR

set_option maxRecDepth 100000
set_option maxHeartbeats 4000000
/-! The lines' way. -/
namespace NR
open PySem PySem.Spec PyProof.Rows L2 NM
theorem op_modNt {X : Cx} : OpR X (binaryOp .Mod) (fun x y H Q => ∃ n m : Nat, x = .int (n : Int) ∧ y = .int (m : Int) ∧ 0 < m ∧ Q (.int ((n % m : Nat) : Int)) H) := by
  intro pins s σ H x y v u Q I rx ry h
  obtain ⟨n, m, rfl, rfl, c, q⟩ := h
  rw [Int.natCast_emod] at q
  exact op_mod pins s σ H _ _ v u Q I rx ry ⟨_, _, rfl, rfl, by omega, q⟩
theorem max0 (n : Nat) : (if ((n : Int) - 1) > 0 then ((n : Int) - 1) else 0) = ((n - 1 : Nat) : Int) := by split <;> omega
theorem max1 (n : Nat) : (if (n : Int) > 1 then (n : Int) else 1) = ((max 1 n : Nat) : Int) := by split <;> omega
theorem twos_max (n : Nat) : twos (max 1 n) = twos n := by
  cases n with
  | zero => rw [twos_le_one (show max 1 0 ≤ 1 by decide), twos_le_one (Nat.zero_le 1)]
  | succ n => rw [Nat.max_eq_right (by omega)]
theorem perS_le (sg : Bool) (n : Nat) : perS sg n ≤ twos n := by
  unfold perS
  split <;> omega
theorem tell_all (sg : Bool) (n : Nat) : tellB n (perS sg n) n ≤ (n - 1) * (1 + twos n) := by
  unfold tellB
  by_cases z : n = 0
  · rw [if_pos z]; exact Nat.zero_le _
  · rw [if_neg z, Nat.mul_add, Nat.mul_one]
    exact Nat.add_le_add_left (Nat.mul_le_mul (Nat.le_refl _) (perS_le sg n)) _
theorem tell_four (n : Nat) : tellB 4 (perS false 4) n ≤ if n = 0 then 0 else 3 + 2 * (n - 1) := by
  have e : perS false 4 = 2 := by
    show twos 4 = 2
    exact twos_eq (by decide) fun u hu => by
      match u, hu with
      | 0, _ => decide
      | 1, _ => decide
  unfold tellB
  rw [e]
  by_cases z : n = 0
  · rw [if_pos z, if_pos z]; exact Nat.le_refl _
  · rw [if_neg z, if_neg z]; omega
theorem bt_ah (r : Nat → Nat) {l : List Nat} (h : l.Pairwise (ah r)) : l.Pairwise (bt r false) := h
def spWayX (k : Nat) (ex : List V → Prop) : Sp := fun vs H Q _ => ∃ (g : G) (xa : Addr) (zs : List Nat) (ws : List V), vs = [.ref g.r, .ref g.o, .ref g.a, .ref xa] ++ ws ∧ ex ws ∧ GOk g H ∧ H xa = some (.lst (vL zs)) ∧ k ≤ zs.length ∧ zs.length ≤ 1000 ∧ ∀ H', Fr [] H H' → Q (.bl true) H'
theorem part_pour {r : Nat → Nat} (m : Bool) (n c : Nat) (hc : c ≤ n) : (pr r m (prt (arr r n) 0 c) (prt (arr r n) c n)).1 = arr r n ∧ (pr r m (prt (arr r n) 0 c) (prt (arr r n) c n)).2 ≤ wt m * n := by
  have hall : ∀ x ∈ arr r n, x < n := fun x hx => arr_mem.mp hx
  have hs := prt_split 0 c n (Nat.zero_le _) hc (arr r n)
  rw [prt_all hall] at hs
  have hp : (pr r m (prt (arr r n) 0 c) (prt (arr r n) c n)).1.Perm (List.range n) := (pr_perm r m _ _).trans (hs.symm.trans (arr_perm r n))
  have hw : (pr r m (prt (arr r n) 0 c) (prt (arr r n) c n)).1.Pairwise (ah r) := pr_pw m ((arr_pw r n).sublist List.filter_sublist) ((arr_pw r n).sublist List.filter_sublist) fun a ha b hb => by
    have := (prt_mem.mp ha).2
    have := (prt_mem.mp hb).2
    omega
  refine ⟨arr_of hp hw, ?_⟩
  have := pr_asks r m (prt (arr r n) 0 c) (prt (arr r n) c n)
  have hl := hs.length_eq
  rw [arr_length, List.length_append] at hl
  rw [← hl] at this
  exact this
section
variable {P : Program} {w : World} {K : PySem.W.Frag} {mg : Str → Option Value} {base : Heap}
theorem sc_law_lines_way : FnScope ["_law_row_here", "_law_order_here", "_law_arrangement", "_law_xs", "_law_many_here", "_law_asker", "_law_x", "_law_lines", "_law_at", "_law_one", "_law_other"] ["_law_row_here", "_law_order_here", "_law_arrangement", "_law_xs"] (defScope s_law_lines_way) := ⟨rfl, rfl, rfl, by decide +kernel, rfl, by decide +kernel, by decide +kernel⟩
theorem ok_law_lines_way (T : Hd K mg) : DOk P w K mg base 17 "_law_lines_way" ["_law_row_here", "_law_order_here", "_law_arrangement", "_law_xs"] (spWayX 5 fun ws => ws = []) := by
  refine mkD T 78 54 rfl rfl sc_law_lines_way (fun _ _ _ _ _ _ us hl => match us, hl with | [_, _, _, _], _ => rfl) (fun vs H Q E h => ?_) (fun cdv A outer s H vs Q E hr h => ?_)
  · obtain ⟨g, xa, zs, ws, rfl, rfl, _⟩ := h; rfl
  · obtain ⟨g, xa, zs, ws, rfl, rfl, hg, hX, hz5, hz, q⟩ := h
    refine ⟨_, (pss_cons (ps_set (i := 4) sc_law_lines_way.nd rfl (Or.inl rfl) (pe_callB call_len_seq (by rfl) T.f_len (by decide +kernel) (pa_cons (pv 0) pa_nil)))
      (pss_cons (ps_set (i := 5) sc_law_lines_way.nd rfl (Or.inl rfl) (pe_mk (ok_Asker_init T) (hr.mono (by decide)) (pa_cons (pv 0) (pa_cons (pv 1) (pa_cons pe_non pa_nil)))))
      (pss_cons (ps_if (pt_not (pt_val (pe_cd (ok_law_same T) (hr.mono (by decide)) (pa_cons (pe_cd (ok_poured_all T) (hr.mono (by decide)) (pa_cons (pv 5) (pa_cons (pe_callTy call_tuple_of (by rfl) T.f_tuple (by decide +kernel) (pa_cons (pe_lc (own := [("_law_x", 6)]) (g := gName 6) (tt := tYes) rfl sc_law_lines_way.nd (pi_range1 (by rfl) T.f_range (pa_cons (pv 4) pa_nil)) (blkOk_by (own := [("_law_x", 6)]) (N := ["_law_row_here", "_law_order_here", "_law_arrangement", "_law_xs", "_law_many_here", "_law_asker", "_law_x", "_law_lines", "_law_at", "_law_one", "_law_other"]) (sc := defScope s_law_lines_way) (by decide +kernel)) (fun _ _ _ _ _ => (pg_name (i := 6) sc_law_lines_way.nd rfl (Or.inl rfl))) (fun _ _ _ _ _ => pts_nil) (fun _ _ _ _ _ => (pe_tup (pa_cons (pv 6) pa_nil)))) pa_nil)) pa_nil))) (pa_cons (pv 2) pa_nil)))))
        (pss_one (ps_ret pe_bl))
        pss_nil)
      (Evl.pss_cut (ps_if (pt_cmpR op_gt (pe_callB call_len_seq (by rfl) T.f_len (by decide +kernel) (pa_cons (pe_md0 (ok_Noted_book T) (hr.mono (by decide)) (pv 5)) pa_nil)) (pe_op op_mul (pe_callB (call_max2 rfl) (by rfl) T.f_max (by decide +kernel) (pa_cons pe_int (pa_cons (pe_op op_sub (pv 4) pe_int) pa_nil))) (pe_op op_add pe_int (pe_cd (ok_law_twos T) (hr.mono (by decide)) (pa_cons (pe_callB (call_max2 rfl) (by rfl) T.f_max (by decide +kernel) (pa_cons pe_int (pa_cons (pv 4) pa_nil))) pa_nil)))) (nomark _))
        (pss_one (ps_ret pe_bl))
        pss_nil)
      (pss_cons (ps_set (i := 5) sc_law_lines_way.nd rfl (Or.inl rfl) (pe_mk (ok_Asker_init T) (hr.mono (by decide)) (pa_cons (pv 0) (pa_cons (pv 1) (pa_cons pe_non pa_nil)))))
      (pss_cons (ps_set (i := 7) sc_law_lines_way.nd rfl (Or.inl rfl) (pe_cd (ok_law_parts T) (hr.mono (by decide)) (pa_cons (pv 2) (pa_cons (pv 3) pa_nil))))
      (pss_cons (ps_if (pt_not (pt_val (pe_cd (ok_law_same T) (hr.mono (by decide)) (pa_cons (pe_cd (ok_poured_all T) (hr.mono (by decide)) (pa_cons (pv 5) (pa_cons (pv 7) pa_nil))) (pa_cons (pv 2) pa_nil)))))
        (pss_one (ps_ret pe_bl))
        pss_nil)
      (Evl.pss_cut (ps_if (pt_cmpR op_gt (pe_callB call_len_seq (by rfl) T.f_len (by decide +kernel) (pa_cons (pe_md0 (ok_Noted_book T) (hr.mono (by decide)) (pv 5)) pa_nil)) (pe_ix ix_list (pe_lst (pa_cons pe_int (pa_cons (pe_op op_add pe_int (pe_op op_mul pe_int (pe_op op_sub (pv 4) pe_int))) pa_nil))) (pe_callTy call_int1 (by rfl) T.f_int (by decide +kernel) (pa_cons (pe_cmpR op_gt (pv 4) pe_int (nomark _)) pa_nil)) (fun _ _ => rfl)) (nomark _))
        (pss_one (ps_ret pe_bl))
        pss_nil)
      (pss_cons (ps_set (i := 8) sc_law_lines_way.nd rfl (Or.inr rfl) (pe_op op_modNt (pe_ix ix_list (pv 3) pe_int (fun _ _ => rfl)) (pe_op op_add (pv 4) pe_int)))
      (pss_cons (ps_par (i := 9) (j := 10) (by rfl) sc_law_lines_way.nd rfl rfl (by decide) rfl rfl (pa_cons (pe_callTy call_tuple_of (by rfl) T.f_tuple (by decide +kernel) (pa_cons (pe_lc (own := [("_law_x", 6)]) (g := gName 6) rfl sc_law_lines_way.nd (pi_tup (pv 2)) (blkOk_by (own := [("_law_x", 6)]) (N := ["_law_row_here", "_law_order_here", "_law_arrangement", "_law_xs", "_law_many_here", "_law_asker", "_law_x", "_law_lines", "_law_at", "_law_one", "_law_other"]) (sc := defScope s_law_lines_way) (by decide +kernel)) (fun _ _ _ _ _ => (pg_name (i := 6) sc_law_lines_way.nd rfl (Or.inl rfl))) (fun _ _ _ _ _ => (pts_one (pt_cmpR op_lt (pv 6) (pv 8) (nomark _)))) (fun _ _ _ _ _ => (pv 6))) pa_nil)) (pa_cons (pe_callTy call_tuple_of (by rfl) T.f_tuple (by decide +kernel) (pa_cons (pe_lc (own := [("_law_x", 6)]) (g := gName 6) rfl sc_law_lines_way.nd (pi_tup (pv 2)) (blkOk_by (own := [("_law_x", 6)]) (N := ["_law_row_here", "_law_order_here", "_law_arrangement", "_law_xs", "_law_many_here", "_law_asker", "_law_x", "_law_lines", "_law_at", "_law_one", "_law_other"]) (sc := defScope s_law_lines_way) (by decide +kernel)) (fun _ _ _ _ _ => (pg_name (i := 6) sc_law_lines_way.nd rfl (Or.inl rfl))) (fun _ _ _ _ _ => (pts_one (pt_cmpR op_ge (pv 6) (pv 8) (nomark _)))) (fun _ _ _ _ _ => (pv 6))) pa_nil)) pa_nil)) (by rfl))
      (pss_cons (ps_set (i := 5) sc_law_lines_way.nd rfl (Or.inl rfl) (pe_mk (ok_Asker_init T) (hr.mono (by decide)) (pa_cons (pv 0) (pa_cons (pv 1) (pa_cons pe_non pa_nil)))))
      (pss_cons (ps_if (pt_not (pt_val (pe_cd (ok_law_same T) (hr.mono (by decide)) (pa_cons (pe_cd (ok_poured T) (hr.mono (by decide)) (pa_cons (pv 5) (pa_cons (pv 9) (pa_cons (pv 10) (pa_cons (pe_ix ix_list (pe_lst (pa_cons pe_str (pa_cons pe_str pa_nil))) (pe_op op_modNt (pe_ix ix_list (pv 3) pe_int (fun _ _ => rfl)) pe_int) (fun _ _ => rfl)) pa_nil))))) (pa_cons (pv 2) pa_nil)))))
        (pss_one (ps_ret pe_bl))
        pss_nil)
      (pss_one (ps_ret (pe_cmpR op_le (pe_callB call_len_seq (by rfl) T.f_len (by decide +kernel) (pa_cons (pe_md0 (ok_Noted_book T) (hr.mono (by decide)) (pv 5)) pa_nil)) (pe_op op_mul (pe_op op_add pe_int (pe_op op_modNt (pe_ix ix_list (pv 3) pe_int (fun _ _ => rfl)) pe_int)) (pv 4)) (nomark _)))))))))))))))), ?_⟩
    have h60 := hg.c.n60
    obtain ⟨xs, hxs, hxl⟩ := row_len hg.hr
    have hxn : xs.length = g.n := by rw [hxl, hg.c.len]
    have htw : twos g.n ≤ 6 := twos64 (by omega)
    have hmul : (g.n - 1) * (1 + twos g.n) ≤ 60 * 7 := Nat.mul_le_mul (by omega) (by omega)
    refine ⟨_, rfl, g.r, xs, rfl, .inr (SqT.of hxs), ?_⟩
    rw [hxn]
    refine ⟨_, rfl, _, rfl, ?_⟩
    intro A sx hA nd ne
    refine ask_at hA nd ne hg.hr hg.ho hg.ok hg.th hg.c fun l H1 hl0 f1 ha => ?_
    refine ⟨_, rfl, _, rfl, ?_⟩
    -- t = tuple([(x,) for x in range(n)])
    refine ⟨(g.n : Int), rfl, by omega, by omega, fun L hL => ?_⟩
    refine lc_it (walk_range0 (n := ((g.n : Nat) : Int).toNat)) (fun i H' => Fr [L] H1 H' ∧ ∃ vs : List V, H' L = some (.lst vs) ∧ vs.length = i ∧ ∀ j, j < i → ∃ a : Addr, vs[j]? = some (.ref a) ∧ H' a = some (.tup (vL [j]))) ⟨Fr.new hL, [], upd_same, rfl, fun j hj => absurd hj (Nat.not_lt_zero _)⟩ (fun _ _ _ _ => trivial) ?_ ?_
    · rintro i x H2 H3 hi ⟨f, vs, e, hl, hj⟩ ⟨rfl, rfl⟩
      refine ⟨rfl, ?_⟩
      refine ⟨_, rfl, by show 1 ≤ sizeLine; decide, fun t ht => ?_⟩
      have nLt : L ≠ t := ne_of_none e ht
      have f2 : Fr [L] H3 (upd (upd H3 t (.tup [vI i])) L (.lst (vs ++ [.ref t]))) := (Fr.new ht).trans (Fr.put1 (by rw [upd_ne nLt]; exact e) rfl)
      refine ⟨vs, by rw [upd_ne nLt]; exact e, sz_lt (by omega), f.trans f2, _, upd_same, by rw [List.length_append, hl]; rfl, fun j hji => ?_⟩
      by_cases z : j = i
      · subst z
        exact ⟨t, by rw [List.getElem?_append_right (by omega), hl, Nat.sub_self]; rfl, by rw [upd_ne nLt.symm, upd_same]; rfl⟩
      · obtain ⟨a, a1, a2⟩ := hj j (by omega)
        exact ⟨a, by rw [List.getElem?_append_left (by omega)]; exact a1, f2.tup _ _ a2⟩
    rintro H2 ⟨f, vs, e, hl, hj⟩
    rw [Int.toNat_natCast] at hl hj
    refine ⟨L, _, rfl, .inl ⟨SqL.of e, fun LA hLA => ?_⟩⟩
    have f2 : Fr [] H1 (upd H2 LA (.tup vs)) := (f.trans (Fr.new (o := .tup vs) hLA)).drop1 hL
    have hLs : LinesAt (upd H2 LA (.tup vs)) LA (singles g.n) := ⟨vs, upd_same, by rw [singles_length]; exact hl, fun i hi => by
      rw [singles_length] at hi
      obtain ⟨a, a1, a2⟩ := hj i hi
      refine ⟨a, a1, ?_⟩
      rw [singles_get hi, upd_ne (ne_of_none a2 hLA)]
      exact a2⟩
    generalize upd H2 LA (.tup vs) = H3 at f2 hLs
    have sl := singles_length g.n
    have F3 := f1.trans f2
    refine ⟨_, 0, LA, singles g.n, arr g.rk g.n, true, rfl, ha.keep0 f2, hLs, by rw [sl]; exact h60, by unfold singles; rw [flat_singles]; exact arr_perm _ _, bt_ah _ (arr_pw _ _), singles_ok _ _ _, arr_nodup _ _, fun y hy => arr_mem.mp hy, by rw [arr_length]; omega, by omega, fun _ i hi => by
      rw [sl] at hi
      rw [singles_get hi]; exact Nat.le_refl _, fun t H4 q1 hq1 f4 ha4 e4 => ?_⟩
    rw [sl, arr_length, Nat.zero_add] at hq1
    have hq2 := Nat.le_trans hq1 (tell_all true g.n)
    have F4 := (F3.up.trans f4)
    refine ⟨_, rfl, t, g.a, _, rfl, e4, F4.tup _ _ hg.ha, by rw [arr_length]; omega, fun H5 f5 => ⟨true, rfl, ?_⟩⟩
    have F5 := (F4.trans f5.up).drop1 hl0
    have ha5 := ha4.keep0 f5
    refine ⟨fun σ' H' => (∃ v5, σ' = [some (.ref g.r), some (.ref g.o), some (.ref g.a), some (.ref xa), some (vI g.n), v5, none, none, none, none, none]) ∧ Fr [] H H', ?_, ?_⟩
    · refine ⟨_, rfl, A, sx, _, rfl, ha5.hp, rfl, _, _, rfl, ha5, fun v bk H6 hv0 hv hbk f6 => ⟨v, bk, rfl, .inr (SqT.of hv), ?_⟩⟩
      rw [hbk]
      refine ⟨_, rfl, _, _, rfl, rfl, 0, ((g.n : Int) - 1), rfl, ?_⟩
      rw [max0]
      refine ⟨_, rfl, 1, (g.n : Int), rfl, ?_⟩
      rw [max1]
      refine ⟨max 1 g.n, rfl, by omega, fun H7 f7 => ?_⟩
      rw [twos_max]
      refine ⟨_, _, rfl, rfl, _, _, rfl, rfl, .inl ⟨by omega, by omega⟩, _, _, rfl, rfl, _, rfl, itD (fun gt => absurd gt ?_) (fun _ => ?_)⟩
      · have : ((g.n - 1 : Nat) : Int) * (1 + ((twos g.n : Nat) : Int)) = (((g.n - 1) * (1 + twos g.n) : Nat) : Int) := by
          rw [Int.natCast_mul, Int.natCast_add]; rfl
        rw [this]
        show ¬ _ < ((q1 : Nat) : Int)
        omega
      · exact ⟨⟨_, rfl⟩, F5.trans (f6.trans f7)⟩
    · rintro σ' H6 ⟨⟨v5, rfl⟩, F6⟩
      have hg6 := hg.keep F6
      have hX6 := F6.keep xa _ (by simp) hX
      refine ⟨_, rfl, _, rfl, ?_⟩
      intro B sy hB nd2 ne2
      refine ask_at hB nd2 ne2 hg6.hr hg6.ho hg6.ok hg6.th hg6.c fun l2 H7 hl2 f7 hb => ?_
      have len := arr_length g.rk g.n
      refine ⟨_, rfl, _, rfl, g.a, xa, arr g.rk g.n, zs, rfl, f7.tup _ _ hg6.ha, f7.keep xa _ (by simp) hX6, by omega, hz, by rw [len]; exact h60, fun LB H8 x y z hxy hyz hzn f8 hLs2 => ?_⟩
      rw [len] at hzn hLs2
      have F8 := f7.trans f8
      have hall : ∀ x ∈ arr g.rk g.n, x < g.n := fun x hx => arr_mem.mp hx
      refine ⟨_, rfl, _, rfl, _, 0, LB, pts (arr g.rk g.n) x y z g.n, arr g.rk g.n, false, rfl, hb.keep0 f8, hLs2, by show 4 ≤ 60; decide, pts_perm hall hxy hyz hzn, bt_ah _ (arr_pw _ _), pts_ok (arr_pw _ _) hxy hyz, arr_nodup _ _, hall, by rw [len]; omega, by omega, (fun h => (nomatch h)), fun t H9 q1 hq1 f9 hb9 e9 => ?_⟩
      rw [len, Nat.zero_add] at hq1
      have hq2 := Nat.le_trans hq1 (tell_four g.n)
      have F9 := F8.up.trans f9
      refine ⟨_, rfl, t, g.a, _, rfl, e9, F9.tup _ _ hg6.ha, by rw [len]; omega, fun H10 f10 => ⟨true, rfl, ?_⟩⟩
      have F10 := (F9.trans f10.up).drop1 hl2
      have hb10 := hb9.keep0 f10
      refine ⟨fun σ' H' => (∃ v5 v7, σ' = [some (.ref g.r), some (.ref g.o), some (.ref g.a), some (.ref xa), some (vI g.n), v5, none, v7, none, none, none]) ∧ Fr [] H H', ?_, ?_⟩
      · refine ⟨_, rfl, B, sy, _, rfl, hb10.hp, rfl, _, _, rfl, hb10, fun v bk H11 hv0 hv hbk f11 => ⟨v, bk, rfl, .inr (SqT.of hv), ?_⟩⟩
        rw [hbk]
        refine ⟨_, rfl, _, _, rfl, rfl, _, _, rfl, rfl, .inl ⟨by decide, by decide⟩, _, _, rfl, rfl, by show 2 ≤ sizeLine; decide, fun c hc => ?_⟩
        have f12 := f11.trans (Fr.new (o := .lst [V.int 0, V.int (3 + 2 * ((g.n : Int) - 1))]) hc)
        refine ⟨_, rfl, _, _, rfl, rfl, .inr ⟨_, rfl, ?_⟩⟩
        have hqs : ((q1 : Nat) : Int) ≤ (if g.n = 0 then 0 else 3 + 2 * ((g.n : Int) - 1)) := by
          by_cases z0 : g.n = 0
          · rw [if_pos z0] at hq2 ⊢; omega
          · rw [if_neg z0] at hq2 ⊢; omega
        by_cases z0 : g.n = 0
        · rw [if_pos z0] at hqs
          rw [decide_eq_false (show ¬ ((0 : Int) < (g.n : Int)) by omega)]
          refine ⟨c, _, _, _, rfl, rfl, SqL.of upd_same, rfl, _, _, rfl, rfl, _, rfl, itD (fun gt => absurd gt ?_) (fun _ => ?_)⟩
          · show ¬ (0 : Int) < ((q1 : Nat) : Int)
            omega
          · exact ⟨⟨_, _, rfl⟩, F6.trans (F10.trans f12)⟩
        · rw [if_neg z0] at hqs
          rw [decide_eq_true (show ((0 : Int) < (g.n : Int)) by omega)]
          refine ⟨c, _, _, _, rfl, rfl, SqL.of upd_same, rfl, _, _, rfl, rfl, _, rfl, itD (fun gt => absurd gt ?_) (fun _ => ?_)⟩
          · show ¬ (3 + 2 * ((g.n : Int) - 1)) < ((q1 : Nat) : Int)
            omega
          · exact ⟨⟨_, _, rfl⟩, F6.trans (F10.trans f12)⟩
      · rintro σ' H11 ⟨⟨v5, v7, rfl⟩, F11⟩
        have hg11 := hg.keep F11
        have hX11 := F11.keep xa _ (by simp) hX
        have hz3 : (vL zs)[3]? = some (vI (gv zs 3)) := vL_get (by omega)
        have hz4 : (vL zs)[4]? = some (vI (gv zs 4)) := vL_get (by omega)
        have hcn : gv zs 3 % (g.n + 1) ≤ g.n := by
          have := Nat.mod_lt (gv zs 3) (show 0 < g.n + 1 by omega)
          omega
        refine ⟨_, rfl, xa, _, _, _, rfl, rfl, SqL.of hX11, atI_nat hz3, _, rfl, _, _, rfl, rfl, gv zs 3, g.n + 1, rfl, rfl, by omega, ?_⟩
        generalize gv zs 3 % (g.n + 1) = cu at hcn
        have hA11 := hg11.ha
        have len := arr_length g.rk g.n
        have hall' : ∀ x ∈ arr g.rk g.n, x < g.n := fun x hx => arr_mem.mp hx
        refine ⟨_, rfl, g.a, rfl, ⟨_, SqT.of hA11⟩, fun D hD => lc_it (walk_tup (xs := vL (arr g.rk g.n))) (fun i H' => Fr [] H11 H' ∧ H' D = some (.lst (vL (prt ((arr g.rk g.n).take i) 0 cu)))) ⟨Fr.new hD, upd_same⟩ (fun _ _ _ p => SqT.of (p.1.tup _ _ hA11)) ?_ ?_⟩
        · rintro k v H12 H13 hk ⟨f12, e12⟩ ⟨rfl, hx⟩
          obtain ⟨w, hw, rfl⟩ := map_get hx
          rw [vL_length, len] at hk
          have tk := take_prt (arr g.rk g.n) 0 cu k w hw
          refine ⟨rfl, ?_⟩
          have hlen : (prt ((arr g.rk g.n).take k) 0 cu).length ≤ 60 := Nat.le_trans (List.length_filter_le _ _) (by rw [List.length_take]; omega)
          refine ⟨_, rfl, _, rfl, _, _, rfl, rfl, _, rfl, itD (fun a1 => ?_) (fun a1 => ?_)⟩
          · rw [if_pos (by omega)] at tk
            refine ⟨_, rfl, _, e12, by rw [vL_length]; exact sz_lt (by omega), f12.fresh hD, ?_⟩
            rw [upd_same, tk, ← vL_append]
            rfl
          · rw [if_neg (by omega), List.append_nil] at tk
            exact ⟨f12, by rw [tk]; exact e12⟩
        rintro H12 ⟨f12, e12⟩
        rw [vL_length, List.take_length] at e12
        refine ⟨D, _, rfl, .inl ⟨SqL.of e12, fun one h1 => ?_⟩⟩
        have f13 := f12.trans (Fr.new (o := .tup (vL (prt (arr g.rk g.n) 0 cu))) h1)
        have e13 : upd H12 one (.tup (vL (prt (arr g.rk g.n) 0 cu))) one = _ := upd_same
        generalize upd H12 one (.tup (vL (prt (arr g.rk g.n) 0 cu))) = H13 at f13 e13
        have hA13 := f13.tup _ _ hA11
        refine ⟨_, rfl, g.a, rfl, ⟨_, SqT.of hA13⟩, fun D2 hD2 => lc_it (walk_tup (xs := vL (arr g.rk g.n))) (fun i H' => Fr [] H13 H' ∧ H' D2 = some (.lst (vL (prt ((arr g.rk g.n).take i) cu g.n)))) ⟨Fr.new hD2, upd_same⟩ (fun _ _ _ p => SqT.of (p.1.tup _ _ hA13)) ?_ ?_⟩
        · rintro k v H14 H15 hk ⟨f14, e14⟩ ⟨rfl, hx⟩
          obtain ⟨w, hw, rfl⟩ := map_get hx
          rw [vL_length, len] at hk
          have tk := take_prt (arr g.rk g.n) cu g.n k w hw
          have hwn := hall' w (List.mem_of_getElem? hw)
          refine ⟨rfl, ?_⟩
          have hlen : (prt ((arr g.rk g.n).take k) cu g.n).length ≤ 60 := Nat.le_trans (List.length_filter_le _ _) (by rw [List.length_take]; omega)
          refine ⟨_, rfl, _, rfl, _, _, rfl, rfl, _, rfl, itD (fun a1 => ?_) (fun a1 => ?_)⟩
          · rw [if_pos (by omega)] at tk
            refine ⟨_, rfl, _, e14, by rw [vL_length]; exact sz_lt (by omega), f14.fresh hD2, ?_⟩
            rw [upd_same, tk, ← vL_append]
            rfl
          · rw [if_neg (by omega), List.append_nil] at tk
            exact ⟨f14, by rw [tk]; exact e14⟩
        rintro H14 ⟨f14, e14⟩
        rw [vL_length, List.take_length] at e14
        refine ⟨D2, _, rfl, .inl ⟨SqL.of e14, fun oth h2 => ?_⟩⟩
        have f15 := f14.trans (Fr.new (o := .tup (vL (prt (arr g.rk g.n) cu g.n))) h2)
        have e15 : upd H14 oth (.tup (vL (prt (arr g.rk g.n) cu g.n))) oth = _ := upd_same
        generalize upd H14 oth (.tup (vL (prt (arr g.rk g.n) cu g.n))) = H15 at f15 e15
        have e13' := f15.tup _ _ e13
        have F15 := f13.trans f15
        have hg15 := hg11.keep F15
        refine ⟨_, _, rfl, ?_⟩
        refine ⟨_, rfl, _, rfl, ?_⟩
        intro C sz hC nd3 ne3
        refine ask_at hC nd3 ne3 hg15.hr hg15.ho hg15.ok hg15.th hg15.c fun l3 H16 hl3 f16 hc => ?_
        obtain ⟨m, hm⟩ : ∃ m, m = decide (gv zs 4 % 2 = 1) := ⟨_, rfl⟩
        obtain ⟨pp1, pp2⟩ := part_pour (r := g.rk) m g.n cu hcn
        have hwt : wt m = 1 + gv zs 4 % 2 := by
          have := Nat.mod_lt (gv zs 4) (show 0 < 2 by decide)
          rw [hm]
          by_cases z1 : gv zs 4 % 2 = 1
          · rw [z1]; rfl
          · rw [decide_eq_false z1, show gv zs 4 % 2 = 0 by omega]; rfl
        have hwn : wt m * g.n ≤ 2 * 60 := Nat.mul_le_mul (by rw [hwt]; have := Nat.mod_lt (gv zs 4) (show 0 < 2 by decide); omega) h60
        have hX16 := (F15.trans f16).keep xa _ (by simp) hX11
        have hlen1 : (prt (arr g.rk g.n) 0 cu).length ≤ 60 := Nat.le_trans (List.length_filter_le _ _) (by omega)
        have hlen2 : (prt (arr g.rk g.n) cu g.n).length ≤ 60 := Nat.le_trans (List.length_filter_le _ _) (by omega)
        refine ⟨_, rfl, _, rfl, _, rfl, by show 2 ≤ sizeLine; decide, fun c hcn2 => ?_⟩
        have f17 := f16.trans (Fr.new (o := .lst [V.str "plain", V.str "leaps"]) hcn2)
        have hc17 := hc.keep0 (Fr.new (o := .lst [V.str "plain", V.str "leaps"]) hcn2)
        have ec : upd H16 c (.lst [V.str "plain", V.str "leaps"]) c = _ := upd_same
        have hX17 := (Fr.new (xs := []) (o := .lst [V.str "plain", V.str "leaps"]) hcn2).keep xa _ (by simp) hX16
        generalize upd H16 c (.lst [V.str "plain", V.str "leaps"]) = H17 at f17 hc17 ec hX17
        refine ⟨_, rfl, xa, _, _, _, rfl, rfl, SqL.of hX17, atI_nat hz4, gv zs 4, 2, rfl, rfl, by decide, ?_⟩
        have hix : atI [V.str "plain", V.str "leaps"] ((gv zs 4 % 2 : Nat) : Int) = some (.str (manS m)) := by
          have := Nat.mod_lt (gv zs 4) (show 0 < 2 by decide)
          rw [hm]
          by_cases z1 : gv zs 4 % 2 = 1
          · rw [z1]; rfl
          · rw [decide_eq_false z1, show gv zs 4 % 2 = 0 by omega]; rfl
        refine ⟨c, _, _, _, rfl, rfl, SqL.of ec, hix, ?_⟩
        refine ⟨_, 0, one, oth, prt (arr g.rk g.n) 0 cu, prt (arr g.rk g.n) cu g.n, m, rfl, hc17, f17.tup _ _ e13', f17.tup _ _ e15, fun y hy => hall' y (prt_mem.mp hy).1, fun y hy => hall' y (prt_mem.mp hy).1, (arr_nodup _ _).filter _, (arr_nodup _ _).filter _, fun y hy hy2 => ?_, by omega, ?_, fun t H18 f18 hc18 e18 => ?_⟩
        · have := (prt_mem.mp hy).2
          have := (prt_mem.mp hy2).2
          omega
        · show 0 + (pr g.rk m (prt (arr g.rk g.n) 0 cu) (prt (arr g.rk g.n) cu g.n)).2 < 90000
          omega
        have F18 : Fr [l3] H15 H18 := f17.up.trans f18
        have e18 : H18 t = some (.tup (vL (pr g.rk m (prt (arr g.rk g.n) 0 cu) (prt (arr g.rk g.n) cu g.n)).1)) := e18
        rw [pp1] at e18
        refine ⟨_, rfl, t, g.a, _, rfl, e18, F18.tup _ _ hg15.ha, by rw [len]; omega, fun H19 f19 => ⟨true, rfl, ?_⟩⟩
        have F19 := (F18.trans f19.up).drop1 hl3
        have hc19 := hc18.keep0 f19
        refine ⟨_, rfl, C, sz, _, rfl, hc19.hp, rfl, _, _, rfl, hc19, fun v bk H20 hv0 hv hbk f20 => ⟨v, bk, rfl, .inr (SqT.of hv), ?_⟩⟩
        rw [hbk]
        have F20 := F15.trans (F19.trans f20)
        refine ⟨_, rfl, xa, _, _, _, rfl, rfl, SqL.of (F20.keep xa _ (by simp) hX11), atI_nat hz4, gv zs 4, 2, rfl, rfl, by decide, _, _, rfl, rfl, _, rfl, _, _, rfl, rfl, .inr ⟨by omega, by omega⟩, _, _, rfl, rfl, ?_⟩
        have key : (((0 + (pr g.rk m (prt (arr g.rk g.n) 0 cu) (prt (arr g.rk g.n) cu g.n)).2 : Nat) : Int)) ≤ (1 + ((gv zs 4 % 2 : Nat) : Int)) * (g.n : Int) := by
          rw [show (1 + ((gv zs 4 % 2 : Nat) : Int)) = ((1 + gv zs 4 % 2 : Nat) : Int) by rw [Int.natCast_add]; rfl, ← hwt, ← Int.natCast_mul]
          omega
        have fin := q H20 (F11.trans F20)
        rw [← decide_eq_true key] at fin
        exact fin
end
end NR

set_option maxRecDepth 100000
set_option maxHeartbeats 4000000
/-! The first ones' way. -/
namespace NR
open PySem PySem.Spec PyProof.Rows L2 NM
theorem tell_int {n k : Nat} (h : 0 < k) (hk : k ≤ n) : ((tellB n (perS true n) k : Nat) : Int) = (n : Int) - 1 + ((k : Int) - 1) * (((twos n : Nat) : Int) - 1) := by
  unfold tellB perS
  rw [if_neg (by omega), if_pos rfl]
  by_cases z : n = 1
  · subst z
    have : k = 1 := by omega
    subst this
    show ((0 + 0 * _ : Nat) : Int) = 0 + 0 * _
    rw [Nat.zero_mul, Int.zero_mul]; rfl
  · have h1 := twos_pos (show 1 < n by omega)
    rw [Int.natCast_add, Int.natCast_mul]
    have e1 : ((n - 1 : Nat) : Int) = (n : Int) - 1 := by omega
    have e2 : ((k - 1 : Nat) : Int) = (k : Int) - 1 := by omega
    have e3 : ((twos n - 1 : Nat) : Int) = ((twos n : Nat) : Int) - 1 := by omega
    rw [e1, e2, e3]
theorem min_int (k n : Nat) (h : k ≤ n) : (if (n : Int) - (k : Int) < (k : Int) + 1 then (n : Int) - (k : Int) else (k : Int) + 1) = ((min (k + 1) (n - k) : Nat) : Int) := by split <;> omega
section
variable {P : Program} {w : World} {K : PySem.W.Frag} {mg : Str → Option Value} {base : Heap}
theorem sc_law_first_way : FnScope ["_law_row_here", "_law_order_here", "_law_arrangement", "_law_xs", "_law_many_here", "_law_once", "_law_count", "_law_asker", "_law_places", "_law_place", "_law_told"] ["_law_row_here", "_law_order_here", "_law_arrangement", "_law_xs"] (defScope s_law_first_way) := ⟨rfl, rfl, rfl, by decide +kernel, rfl, by decide +kernel, by decide +kernel⟩
theorem ok_law_first_way (T : Hd K mg) : DOk P w K mg base 17 "_law_first_way" ["_law_row_here", "_law_order_here", "_law_arrangement", "_law_xs"] (spWayX 3 fun ws => ws = []) := by
  refine mkD T 79 55 rfl rfl sc_law_first_way (fun _ _ _ _ _ _ us hl => match us, hl with | [_, _, _, _], _ => rfl) (fun vs H Q E h => ?_) (fun cdv A outer s H vs Q E hr h => ?_)
  · obtain ⟨g, xa, zs, ws, rfl, rfl, _⟩ := h; rfl
  · obtain ⟨g, xa, zs, ws, rfl, rfl, hg, hX, hz5, hz, q⟩ := h
    refine ⟨_, (pss_cons (ps_set (i := 4) sc_law_first_way.nd rfl (Or.inl rfl) (pe_callB call_len_seq (by rfl) T.f_len (by decide +kernel) (pa_cons (pv 0) pa_nil)))
      (pss_cons (ps_set (i := 5) sc_law_first_way.nd rfl (Or.inl rfl) (pe_op op_sub (pe_cd (ok_law_twos T) (hr.mono (by decide)) (pa_cons (pe_callB (call_max2 rfl) (by rfl) T.f_max (by decide +kernel) (pa_cons pe_int (pa_cons (pv 4) pa_nil))) pa_nil)) pe_int))
      (pss_cons (ps_set (i := 6) sc_law_first_way.nd rfl (Or.inl rfl) (pe_ix ix_list (pe_lst (pa_cons (pv 4) (pa_cons (pe_op op_modNt (pe_ix ix_list (pv 3) pe_int (fun _ _ => rfl)) (pe_op op_add (pv 4) pe_int)) pa_nil))) (pe_op op_modNt (pe_ix ix_list (pv 3) pe_int (fun _ _ => rfl)) pe_int) (fun _ _ => rfl)))
      (pss_cons (ps_set (i := 7) sc_law_first_way.nd rfl (Or.inl rfl) (pe_mk (ok_Asker_init T) (hr.mono (by decide)) (pa_cons (pv 0) (pa_cons (pv 1) (pa_cons pe_non pa_nil)))))
      (pss_cons (ps_if (pt_not (pt_val (pe_cd (ok_law_same T) (hr.mono (by decide)) (pa_cons (pe_cd (ok_first_of T) (hr.mono (by decide)) (pa_cons (pv 7) (pa_cons (pv 6) pa_nil))) (pa_cons (pe_slice sl_tupA (pv 2) po_none (po_some (pv 6))) pa_nil)))))
        (pss_one (ps_ret pe_bl))
        pss_nil)
      (Evl.pss_cut (ps_if (pt_cmpR op_gt (pe_callB call_len_seq (by rfl) T.f_len (by decide +kernel) (pa_cons (pe_md0 (ok_Noted_book T) (hr.mono (by decide)) (pv 7)) pa_nil)) (pe_ix ix_list (pe_lst (pa_cons pe_int (pa_cons (pe_op op_add (pe_op op_sub (pv 4) pe_int) (pe_op op_mul (pe_op op_sub (pv 6) pe_int) (pv 5))) pa_nil))) (pe_callTy call_int1 (by rfl) T.f_int (by decide +kernel) (pa_cons (pe_cmpR op_gt (pv 6) pe_int (nomark _)) pa_nil)) (fun _ _ => rfl)) (nomark _))
        (pss_one (ps_ret pe_bl))
        pss_nil)
      (pss_cons (ps_set (i := 8) sc_law_first_way.nd rfl (Or.inl rfl) (pe_listRg rfl (by rfl) T.f_list (prg_1 (by rfl) T.f_range (pv 4))))
      (Evl.pss_cut (ps_if (pt_cmpR op_gt (pv 4) pe_int (nomark _))
        (pss_one (ps_set (i := 8) sc_law_first_way.nd rfl (Or.inl rfl) (pe_lst (pa_cons (pe_op op_modNt (pe_ix ix_list (pv 3) pe_int (fun _ _ => rfl)) (pv 4)) pa_nil))))
        pss_nil)
      (pss_cons (ps_for PassesOwn.never rfl (pi_list (pv 8)) (pg_name (i := 9) sc_law_first_way.nd rfl (Or.inl rfl))
        (pss_cons (ps_set (i := 7) sc_law_first_way.nd rfl (Or.inl rfl) (pe_mk (ok_Asker_init T) (hr.mono (by decide)) (pa_cons (pv 0) (pa_cons (pv 1) (pa_cons pe_non pa_nil)))))
        (pss_cons (ps_set (i := 10) sc_law_first_way.nd rfl (Or.inl rfl) (pe_cd (ok_kth T) (hr.mono (by decide)) (pa_cons (pv 7) (pa_cons (pv 9) pa_nil))))
        (pss_cons (ps_if (PW.pt (pw_or (pt_not (pt_val (pe_cd (ok_law_whole T) (hr.mono (by decide)) (pa_cons (pv 10) pa_nil)))) (pw_or1 (pt_cmpR op_ne (pv 10) (pe_ix ix_tup (pv 2) (pv 9) (fun _ _ => rfl)) (nomark _)))))
          (pss_one (ps_ret pe_bl))
          pss_nil)
        (pss_one (ps_if (pt_cmpR op_gt (pe_callB call_len_seq (by rfl) T.f_len (by decide +kernel) (pa_cons (pe_md0 (ok_Noted_book T) (hr.mono (by decide)) (pv 7)) pa_nil)) (pe_op op_add (pe_op op_sub (pv 4) pe_int) (pe_op op_mul (pe_op op_sub (pe_callB (call_min2 rfl) (by rfl) T.f_min (by decide +kernel) (pa_cons (pe_op op_add (pv 9) pe_int) (pa_cons (pe_op op_sub (pv 4) (pv 9)) pa_nil))) pe_int) (pv 5))) (nomark _))
          (pss_one (ps_ret pe_bl))
          pss_nil))))))
      (pss_one (ps_ret pe_bl))))))))))), ?_⟩
    have h60 := hg.c.n60
    obtain ⟨xs, hxs, hxl⟩ := row_len hg.hr
    have hxn : xs.length = g.n := by rw [hxl, hg.c.len]
    have htw : twos g.n ≤ 6 := twos64 (by omega)
    have hz0 : (vL zs)[0]? = some (vI (gv zs 0)) := vL_get (by omega)
    have hz1 : (vL zs)[1]? = some (vI (gv zs 1)) := vL_get (by omega)
    have hz2 : (vL zs)[2]? = some (vI (gv zs 2)) := vL_get (by omega)
    have len := arr_length g.rk g.n
    refine ⟨_, rfl, g.r, xs, rfl, .inr (SqT.of hxs), ?_⟩
    rw [hxn]
    refine ⟨_, rfl, 1, (g.n : Int), rfl, ?_⟩
    rw [max1]
    refine ⟨max 1 g.n, rfl, by omega, fun H1 f1 => ?_⟩
    rw [twos_max]
    have hX1 := f1.keep xa _ (by simp) hX
    refine ⟨_, _, rfl, rfl, _, rfl, _, rfl, xa, _, _, _, rfl, rfl, SqL.of hX1, atI_nat hz0, _, rfl, _, _, rfl, rfl, gv zs 0, g.n + 1, rfl, rfl, by omega, by show 2 ≤ sizeLine; decide, fun c hc => ?_⟩
    obtain ⟨k, hk⟩ : ∃ k, k = if gv zs 1 % 2 = 1 then gv zs 0 % (g.n + 1) else g.n := ⟨_, rfl⟩
    have hkn : k ≤ g.n := by
      have := Nat.mod_lt (gv zs 0) (show 0 < g.n + 1 by omega)
      rw [hk]
      split <;> omega
    have hix : atI [vI g.n, vI (gv zs 0 % (g.n + 1))] ((gv zs 1 % 2 : Nat) : Int) = some (vI k) := by
      have := Nat.mod_lt (gv zs 1) (show 0 < 2 by decide)
      by_cases z1 : gv zs 1 % 2 = 1
      · rw [if_pos z1] at hk
        rw [z1, hk]; rfl
      · rw [if_neg z1] at hk
        rw [hk, show gv zs 1 % 2 = 0 by omega]; rfl
    have f2 := f1.trans (Fr.new (o := .lst [vI g.n, vI (gv zs 0 % (g.n + 1))]) hc)
    have ec : upd H1 c (.lst [vI g.n, vI (gv zs 0 % (g.n + 1))]) c = _ := upd_same
    generalize upd H1 c (.lst [vI g.n, vI (gv zs 0 % (g.n + 1))]) = H2 at f2 ec
    refine ⟨_, rfl, xa, _, _, _, rfl, rfl, SqL.of (f2.keep xa _ (by simp) hX), atI_nat hz1, gv zs 1, 2, rfl, rfl, by decide, c, _, _, _, rfl, rfl, SqL.of ec, hix, ?_⟩
    have hg2 := hg.keep f2
    refine ⟨_, rfl, _, rfl, ?_⟩
    intro A sx hA nd ne
    refine ask_at hA nd ne hg2.hr hg2.ho hg2.ok hg2.th hg2.c fun l H3 hl f3 ha => ?_
    refine ⟨_, rfl, _, rfl, _, 0, k, rfl, ha, hkn, by omega, fun t H4 q1 hq1 f4 ha4 e4 => ?_⟩
    have hq1 : q1 ≤ tellB g.n (perS true g.n) k := by rw [Nat.zero_add] at hq1; exact hq1
    have F4 : Fr [l] H2 H4 := f3.up.trans f4
    refine ⟨_, rfl, _, rfl, _, rfl, ?_⟩
    refine sl_to (F4.tup _ _ hg2.ha) (by rw [len]; exact hkn) (fun t2 H5 f5 e5 => ?_)
    refine ⟨t, t2, _, rfl, f5.tup _ _ e4, e5, by rw [List.length_take]; omega, fun H6 f6 => ⟨true, rfl, ?_⟩⟩
    have F6 := ((F4.trans f5.up).trans f6.up).drop1 hl
    have ha6 := (ha4.keep0 f5).keep0 f6
    refine ⟨fun σ' H' => (∃ v7, σ' = [some (.ref g.r), some (.ref g.o), some (.ref g.a), some (.ref xa), some (vI g.n), some (V.int (((twos g.n : Nat) : Int) - 1)), some (vI k), v7, none, none, none]) ∧ Fr [] H H', ?_, ?_⟩
    · refine ⟨_, rfl, A, sx, _, rfl, ha6.hp, rfl, _, _, rfl, ha6, fun v bk H7 hv0 hv hbk f7 => ⟨v, bk, rfl, .inr (SqT.of hv), ?_⟩⟩
      rw [hbk]
      refine ⟨_, rfl, _, _, rfl, rfl, _, rfl, _, _, rfl, rfl, _, rfl, _, _, rfl, rfl, .inr ⟨by omega, by omega⟩, _, _, rfl, rfl, by show 2 ≤ sizeLine; decide, fun c2 hc2 => ?_⟩
      have f8 := f7.trans (Fr.new (o := .lst [V.int 0, V.int ((g.n : Int) - 1 + ((k : Int) - 1) * (((twos g.n : Nat) : Int) - 1))]) hc2)
      refine ⟨_, rfl, _, _, rfl, rfl, .inr ⟨_, rfl, ?_⟩⟩
      by_cases z0 : 0 < k
      · rw [decide_eq_true (show ((0 : Int) < (k : Int)) by omega)]
        refine ⟨c2, _, _, _, rfl, rfl, SqL.of upd_same, rfl, _, _, rfl, rfl, _, rfl, itD (fun gt => absurd gt ?_) (fun _ => ?_)⟩
        · show ¬ ((g.n : Int) - 1 + ((k : Int) - 1) * (((twos g.n : Nat) : Int) - 1)) < ((q1 : Nat) : Int)
          rw [← tell_int z0 hkn]
          omega
        · exact ⟨⟨_, rfl⟩, f2.trans (F6.trans f8)⟩
      · rw [decide_eq_false (show ¬ ((0 : Int) < (k : Int)) by omega)]
        refine ⟨c2, _, _, _, rfl, rfl, SqL.of upd_same, rfl, _, _, rfl, rfl, _, rfl, itD (fun gt => absurd gt ?_) (fun _ => ?_)⟩
        · show ¬ (0 : Int) < ((q1 : Nat) : Int)
          have hk0 : k = 0 := by omega
          rw [hk0] at hq1
          have : tellB g.n (perS true g.n) 0 = 0 := rfl
          omega
        · exact ⟨⟨_, rfl⟩, f2.trans (F6.trans f8)⟩
    · rintro σ' H7 ⟨⟨v7, rfl⟩, F7⟩
      refine ⟨_, rfl, _, rfl, ⟨by omega, by omega, by omega, by omega, by omega⟩, fun PL hPL => ?_⟩
      rw [show rgV 0 (g.n : Int) = vL (List.range g.n) by
        have := rg_vL 0 g.n
        rw [show ((0 : Nat) : Int) + (g.n : Int) = (g.n : Int) by omega] at this
        rw [List.range_eq_range']
        exact this]
      have f8 : Fr [] H7 (upd H7 PL (.lst (vL (List.range g.n)))) := Fr.new hPL
      have e8 : upd H7 PL (.lst (vL (List.range g.n))) PL = _ := upd_same
      generalize upd H7 PL (.lst (vL (List.range g.n))) = H8 at f8 e8
      have F8 := F7.trans f8
      refine ⟨fun σ' H' => (∃ (PL : Addr) (ps : List Nat), σ' = [some (.ref g.r), some (.ref g.o), some (.ref g.a), some (.ref xa), some (vI g.n), some (V.int (((twos g.n : Nat) : Int) - 1)), some (vI k), v7, some (.ref PL), none, none] ∧ H' PL = some (.lst (vL ps)) ∧ ∀ p ∈ ps, p < g.n) ∧ Fr [] H H', ?_, ?_⟩
      · refine ⟨_, rfl, _, _, rfl, rfl, _, rfl, itD (fun gt => ?_) (fun _ => ?_)⟩
        · have gt : 8 < g.n := by omega
          refine ⟨_, rfl, xa, _, _, _, rfl, rfl, SqL.of (F8.keep xa _ (by simp) hX), atI_nat hz2, _, rfl, gv zs 2, g.n, rfl, rfl, by omega, by show 1 ≤ sizeLine; decide, fun d hd => ?_⟩
          exact ⟨⟨d, [gv zs 2 % g.n], rfl, upd_same, fun p hp => by rw [List.mem_singleton.mp hp]; exact Nat.mod_lt _ (by omega)⟩, F8.trans (Fr.new hd)⟩
        · exact ⟨⟨PL, List.range g.n, rfl, e8, fun p hp => List.mem_range.mp hp⟩, F8⟩
      · rintro σ' H9 ⟨⟨PL, ps, rfl, e9, hps⟩, F9⟩
        refine ⟨_, rfl, PL, rfl, ⟨_, SqL.of e9⟩, for_it (walk_list (xs := vL ps)) (fun i σ H' => Fr [] H9 H' ∧ ∃ v7 v9 v10, σ = [some (.ref g.r), some (.ref g.o), some (.ref g.a), some (.ref xa), some (vI g.n), some (V.int (((twos g.n : Nat) : Int) - 1)), some (vI k), v7, some (.ref PL), v9, v10]) ⟨Fr.refl _ _, _, _, _, rfl⟩ (fun _ _ _ _ p => SqL.of (p.1.keep PL _ (by simp) e9)) ?_ ?_⟩
        · rintro i v σ H10 H11 hi ⟨f10, v7, v9, v10, rfl⟩ ⟨rfl, hx⟩
          obtain ⟨p, hp, rfl⟩ := map_get hx
          have hpn := hps p (List.mem_of_getElem? hp)
          have hg10 := hg.keep (F9.trans f10)
          refine ⟨_, rfl, _, rfl, ?_⟩
          intro B sy hB nd2 ne2
          refine ask_at hB nd2 ne2 hg10.hr hg10.ho hg10.ok hg10.th hg10.c fun l2 H12 hl2 f12 hb => ?_
          refine ⟨_, rfl, _, rfl, _, 0, p, rfl, hb, hpn, by omega, fun H13 q2 hq2 f13 hb13 => ?_⟩
          have hq2 : q2 ≤ tellB g.n (perS true g.n) (min (p + 1) (g.n - p)) := by rw [Nat.zero_add] at hq2; exact hq2
          have F13 := (f12.up.trans f13).drop1 hl2
          refine ⟨_, rfl, _, rfl, true, rfl, ?_⟩
          refine ⟨_, rfl, _, rfl, _, rfl, g.a, _, _, _, rfl, rfl, SqT.of (F13.tup _ _ hg10.ha), vL_at (by rw [len]; exact hpn), rfl, _, rfl, ?_⟩
          refine itN (fun ne => absurd rfl ne) (fun _ => ?_)
          refine ⟨_, rfl, B, sy, _, rfl, hb13.hp, rfl, _, _, rfl, hb13, fun v bk H14 hv0 hv hbk f14 => ⟨v, bk, rfl, .inr (SqT.of hv), ?_⟩⟩
          rw [hbk]
          refine ⟨_, rfl, _, _, rfl, rfl, _, rfl, _, _, rfl, rfl, _, rfl, _, rfl, _, _, rfl, rfl, (p : Int) + 1, (g.n : Int) - (p : Int), rfl, ?_⟩
          rw [min_int p g.n (by omega)]
          have hm0 : 0 < min (p + 1) (g.n - p) := by omega
          have hmn : min (p + 1) (g.n - p) ≤ g.n := by omega
          generalize min (p + 1) (g.n - p) = mm at hq2 hm0 hmn
          refine ⟨_, _, rfl, rfl, _, rfl, _, _, rfl, rfl, .inr ⟨by omega, by omega⟩, _, _, rfl, rfl, _, _, rfl, rfl, _, rfl, itD (fun gt => absurd gt ?_) (fun _ => ?_)⟩
          · show ¬ ((g.n : Int) - 1 + ((mm : Int) - 1) * (((twos g.n : Nat) : Int) - 1)) < ((q2 : Nat) : Int)
            rw [← tell_int hm0 hmn]
            omega
          · exact ⟨f10.trans (F13.trans f14), _, _, _, rfl⟩
        · rintro σ H10 ⟨f10, _, _, _, rfl⟩
          exact q _ (F9.trans f10)
end
end NR

set_option maxRecDepth 100000
set_option maxHeartbeats 4000000
/-! The kept row's way. -/
namespace NR
open PySem PySem.Spec PyProof.Rows L2 NM
theorem KeptAt.keep {K : PySem.W.Frag} {c : AC} {S NL DL : Addr} {l : List Nat} {d : Nat} {H H' : Hp} {xs : List Addr} (h : KeptAt K c S NL DL l d H) (f : Fr xs H H') (h1 : S ∉ xs) (h2 : NL ∉ xs) (h3 : DL ∉ xs) : KeptAt K c S NL DL l d H' := by
  obtain ⟨dx, e⟩ := h.hp
  obtain ⟨ds, e2, e3⟩ := h.hd
  exact ⟨⟨dx, f.keep _ _ h1 e⟩, f.keep _ _ h2 h.hl, ⟨ds, f.keep _ _ h3 e2, e3⟩, h.nl, h.dl, h.nd⟩
theorem KeptAt.keep0 {K : PySem.W.Frag} {c : AC} {S NL DL : Addr} {l : List Nat} {d : Nat} {H H' : Hp} (h : KeptAt K c S NL DL l d H) (f : Fr [] H H') : KeptAt K c S NL DL l d H' := h.keep f (by simp) (by simp) (by simp)
def spWayT (ex : G → List V → Prop) : Sp := fun vs H Q _ => ∃ (g : G) (ta : Addr) (tn : List Nat) (ws : List V), vs = [.ref g.r, .ref g.o, .ref g.a, .ref ta] ++ ws ∧ ex g ws ∧ GOk g H ∧ H ta = some (.lst (vL tn)) ∧ tn.Perm (List.range g.n) ∧ ∀ H', Fr [] H H' → Q (.bl true) H'
theorem take_mem_not {l : List Nat} (nd : l.Nodup) {i x : Nat} (h : l[i]? = some x) : x ∉ l.take i := by
  rw [← List.take_append_drop i l, List.nodup_append] at nd
  intro hm
  refine nd.2.2 _ hm x ?_ rfl
  rw [drop_of_get h]
  exact List.mem_cons_self
theorem perm_take_succ {l m : List Nat} {i x : Nat} (h : l[i]? = some x) (p : m.Perm (x :: l.take i)) : m.Perm (l.take (i + 1)) := by
  rw [List.take_add_one, h]
  exact p.trans (List.perm_append_comm (l₁ := [x]))
section
variable {P : Program} {w : World} {K : PySem.W.Frag} {mg : Str → Option Value} {base : Heap}
theorem sc_law_kept_way : FnScope ["_law_row_here", "_law_order_here", "_law_arrangement", "_law_turn", "_law_asker", "_law_kept", "_law_most_here", "_law_k", "_law_x"] ["_law_row_here", "_law_order_here", "_law_arrangement", "_law_turn"] (defScope s_law_kept_way) := ⟨rfl, rfl, rfl, by decide +kernel, rfl, by decide +kernel, by decide +kernel⟩
theorem ok_law_kept_way (T : Hd K mg) : DOk P w K mg base 8 "_law_kept_way" ["_law_row_here", "_law_order_here", "_law_arrangement", "_law_turn"] (spWayT fun g ws => ws = []) := by
  refine mkD T 81 57 rfl rfl sc_law_kept_way (fun _ _ _ _ _ _ us hl => match us, hl with | [_, _, _, _], _ => rfl) (fun vs H Q E h => ?_) (fun cdv A outer s H vs Q E hr h => ?_)
  · obtain ⟨g, ta, tn, ws, rfl, rfl, _⟩ := h; rfl
  · obtain ⟨g, ta, tn, ws, rfl, rfl, hg, hT, hp, q⟩ := h
    refine ⟨_, (pss_cons (ps_set (i := 4) sc_law_kept_way.nd rfl (Or.inl rfl) (pe_mk (ok_Asker_init T) (hr.mono (by decide)) (pa_cons (pv 0) (pa_cons (pv 1) (pa_cons pe_non pa_nil)))))
      (pss_cons (ps_set (i := 5) sc_law_kept_way.nd rfl (Or.inl rfl) (pe_mk (ok_Kept_init T) (hr.mono (by decide)) (pa_cons (pv 4) pa_nil)))
      (pss_cons (ps_set (i := 6) sc_law_kept_way.nd rfl (Or.inl rfl) pe_int)
      (pss_cons (ps_for PassesOwn.never rfl (pi_enum (by rfl) T.f_enumerate (pa_cons (pv 3) pa_nil)) (pg_tup rfl (pgs_cons (pg_name (i := 7) sc_law_kept_way.nd rfl (Or.inl rfl)) (pgs_cons (pg_name (i := 8) sc_law_kept_way.nd rfl (Or.inl rfl)) pgs_nil)))
        (pss_cons (ps_set (i := 6) sc_law_kept_way.nd rfl (Or.inl rfl) (pe_op op_add (pv 6) (pe_cd (ok_law_twos T) (hr.mono (by decide)) (pa_cons (pe_op op_add (pv 7) pe_int) pa_nil))))
        (pss_one (ps_expr (pe_md (ok_Kept_put T) (hr.mono (by decide)) (pv 5) (pa_cons (pv 8) pa_nil))))))
      (pss_one (ps_ret (pe_and (pe_cd (ok_law_same T) (hr.mono (by decide)) (pa_cons (pe_md0 (ok_Kept_line T) (hr.mono (by decide)) (pv 5)) (pa_cons (pv 2) pa_nil))) (pe_one (pe_cmpR op_le (pe_callB call_len_seq (by rfl) T.f_len (by decide +kernel) (pa_cons (pe_md0 (ok_Noted_book T) (hr.mono (by decide)) (pv 4)) pa_nil)) (pv 6) (nomark _)))))))))), ?_⟩
    have h60 := hg.c.n60
    have hnd : tn.Nodup := hp.nodup_iff.mpr List.nodup_range
    have hlen : tn.length = g.n := by rw [hp.length_eq, List.length_range]
    have hlt : ∀ x ∈ tn, x < g.n := fun x hx => List.mem_range.mp (hp.subset hx)
    have len := arr_length g.rk g.n
    refine ⟨_, rfl, _, rfl, ?_⟩
    intro A sx hA nd ne
    refine ask_at hA nd ne hg.hr hg.ho hg.ok hg.th hg.c fun l H1 hl f1 ha => ?_
    refine ⟨_, rfl, ?_⟩
    intro S sy hS nd2 ne2
    have f0 : Fr [] H1 (upd (upd H1 sy (.own S)) S (.ins (He.ga K "Kept") sy [])) := (Fr.new nd2).fresh hS
    refine ⟨S, sy, _, 0, rfl, upd_same, ha.keep0 f0, fun NL DL H2 hN hD f2 hk => ⟨rfl, ?_⟩⟩
    have F2 : Fr [] H1 H2 := (f0.up.trans f2).drop1 hS
    have ha2 := ha.keep0 F2
    have hN0 : H NL = none := f1.none (by simp) (f0.none (by simp) hN)
    have hD0 : H DL = none := f1.none (by simp) (f0.none (by simp) hD)
    have hS0 : H S = none := f1.none (by simp) hS
    have F02 := f1.trans F2
    have nT : ta ∉ [l, S, NL, DL] := by
      simp only [List.mem_cons, List.not_mem_nil, or_false, not_or]
      exact ⟨ne_of_none hT hl, ne_of_none hT hS0, ne_of_none hT hN0, ne_of_none hT hD0⟩
    refine ⟨_, rfl, ta, _, rfl, SqL.of (F02.keep ta _ (by simp) hT), for_it (walk_enum (xs := vL tn)) (fun i σ H' => Fr [l, S, NL, DL] H H' ∧ ∃ (q1 M : Nat) (kl : List Nat) (z7 z8 : Option V), σ = [some (.ref g.r), some (.ref g.o), some (.ref g.a), some (.ref ta), some (.ref A), some (.ref S), some (vI M), z7, z8] ∧ AskAt K ⟨A, sx, l, g.r, g.o, g.n, g.rk, g.rows, g.ord⟩ q1 H' ∧ KeptAt K ⟨A, sx, l, g.r, g.o, g.n, g.rk, g.rows, g.ord⟩ S NL DL kl i H' ∧ kl.Perm (tn.take i) ∧ kl.Pairwise (ah g.rk) ∧ q1 ≤ M ∧ M ≤ 64 * i) ⟨F02.up, 0, 0, [], _, _, rfl, ha2, hk, List.Perm.refl _, List.Pairwise.nil, Nat.le_refl _, Nat.zero_le _⟩ (fun _ _ _ _ p => SqL.of (p.1.keep ta _ nT hT)) ?_ ?_⟩
    · rintro i v σ H3 H4 hi ⟨F3, q1, M, kl, z7, z8, rfl, ha3, hk3, hp3, hw3, hq3, hM3⟩ ⟨T2, x', y', rfl, hT2, rfl, hx', hy'⟩
      have hx' := Option.some.inj hx'
      subst hx'
      obtain ⟨y, hy, rfl⟩ := map_get hy'
      rw [vL_length] at hi
      refine ⟨T2, _, rfl, SqT.of upd_same, rfl, _, _, rfl, _, _, rfl, rfl, ?_⟩
      have f4 : Fr [] H3 (upd H3 T2 (.tup [V.int ((i : Nat) : Int), vI y])) := Fr.new hT2
      have ha4 := ha3.keep0 f4
      have hk4 := hk3.keep0 f4
      generalize upd H3 T2 (.tup [V.int ((i : Nat) : Int), vI y]) = H4 at f4 ha4 hk4
      refine ⟨_, rfl, _, rfl, _, _, rfl, rfl, i + 1, rfl, by omega, fun H5 f5 => ?_⟩
      refine ⟨_, _, rfl, rfl, ?_⟩
      have ha5 := ha4.keep0 f5
      have hk5 := hk4.keep0 f5
      obtain ⟨dx5, hS5⟩ := hk5.hp
      have hkl : kl.length = i := by rw [hp3.length_eq, List.length_take]; omega
      have hyn := hlt y (List.mem_of_getElem? hy)
      have hnot : y ∉ kl := fun z => take_mem_not hnd hy (hp3.subset z)
      obtain ⟨k1, k2, k3, k4⟩ := kp_ok hw3 hnot
      rw [hkl] at k3
      have htw : twos (i + 1) ≤ 6 := twos64 (by omega)
      refine ⟨_, rfl, S, dx5, _, rfl, hS5, rfl, _, rfl, _, q1, S, NL, DL, kl, i, y, rfl, ha5, hk5, fun z hz => hlt z (List.mem_of_mem_take (hp3.subset hz)), hyn, hnot, by omega, by omega, ?_, fun H6 f6 ha6 hk6 => ?_⟩
      · show q1 + (kp g.rk kl y).2 < 90000
        omega
      · refine ⟨F3.trans ((f4.trans f5).up.trans f6), _, M + twos (i + 1), _, _, _, rfl, ha6, hk6, perm_take_succ hy (k2.trans ((List.perm_cons y).mpr hp3)), k1, ?_, by omega⟩
        show q1 + (kp g.rk kl y).2 ≤ M + twos (i + 1)
        omega
    · rintro σ H3 ⟨F3, q1, M, kl, z7, z8, rfl, ha3, hk3, hp3, hw3, hq3, hM3⟩
      rw [vL_length, List.take_length] at hp3
      have hkl : kl = arr g.rk g.n := arr_of (hp3.trans hp) hw3
      subst hkl
      obtain ⟨dx3, hS3⟩ := hk3.hp
      refine ⟨_, rfl, S, dx3, _, rfl, hS3, rfl, _, S, NL, DL, _, _, rfl, hk3, fun t H4 f4 e4 => ?_⟩
      refine ⟨_, rfl, t, g.a, _, rfl, e4, f4.tup _ _ (F3.tup _ _ hg.ha), by rw [len]; omega, fun H5 f5 => ⟨true, rfl, ?_⟩⟩
      have ha5 := (ha3.keep0 f4).keep0 f5
      refine ⟨_, rfl, A, sx, _, rfl, ha5.hp, rfl, _, _, rfl, ha5, fun v bk H6 hv0 hv hbk f6 => ⟨v, bk, rfl, .inr (SqT.of hv), ?_⟩⟩
      rw [hbk]
      refine ⟨_, rfl, _, _, rfl, rfl, ?_⟩
      have fin := q H6 (((F3.trans ((f4.trans f5).trans f6).up)).drop fun b hb => ?_)
      · rw [← decide_eq_true (show ((q1 : Nat) : Int) ≤ ((M : Nat) : Int) by omega)] at fin
        exact fin
      · simp only [List.mem_cons, List.not_mem_nil, or_false] at hb
        rcases hb with rfl | rfl | rfl | rfl
        · exact .inr hl
        · exact .inr hS0
        · exact .inr hN0
        · exact .inr hD0
end
end NR

set_option maxRecDepth 100000
set_option maxHeartbeats 4000000
/-! The heap's way. -/
namespace NR
open PySem PySem.Spec PyProof.Rows L2 NM
theorem lt_of_le_nodup {l : List Nat} (h : l.Pairwise (· ≤ ·)) (nd : l.Nodup) : l.Pairwise (ah fun _ => 0) := by
  induction l with
  | nil => exact List.Pairwise.nil
  | cons a l ih =>
    obtain ⟨h1, h2⟩ := List.pairwise_cons.mp h
    obtain ⟨n1, n2⟩ := List.nodup_cons.mp nd
    refine List.pairwise_cons.mpr ⟨fun b hb => ?_, ih h2 n2⟩
    have := h1 b hb
    have : a ≠ b := fun z => n1 (by rw [z]; exact hb)
    show (0 : Nat) < 0 ∨ _
    exact .inr ⟨rfl, by omega⟩
theorem sorted_same {l m : List Nat} (p : l.Perm m) (h1 : l.Pairwise (· ≤ ·)) (h2 : m.Pairwise (· ≤ ·)) (nd : l.Nodup) : l = m := ah_same p (lt_of_le_nodup h1 nd) (lt_of_le_nodup h2 (p.nodup_iff.mp nd))
/-- the numbers that are not told yet -/
def left (n : Nat) (sm : List Nat) : List Nat := (List.range n).filter fun x => !decide (x ∈ sm)
theorem left_perm {n : Nat} {sm U : List Nat} (h : (sm ++ U).Perm (List.range n)) : U.Perm (left n sm) := by
  have nd : (sm ++ U).Nodup := h.nodup_iff.mpr List.nodup_range
  have hd := List.nodup_append.mp nd
  have f1 := h.filter fun x => !decide (x ∈ sm)
  rw [List.filter_append] at f1
  have e1 : sm.filter (fun x => !decide (x ∈ sm)) = [] := List.filter_eq_nil_iff.mpr fun x hx => by simp [hx]
  have e2 : U.filter (fun x => !decide (x ∈ sm)) = U := List.filter_eq_self.mpr fun x hx => by
    have : x ∉ sm := fun z => hd.2.2 x z x hx rfl
    simp [this]
  rw [e1, e2, List.nil_append] at f1
  exact f1
theorem take_left (n : Nat) (sm : List Nat) (i : Nat) (h : i < n) : ((List.range n).take (i + 1)).filter (fun x => !decide (x ∈ sm)) = ((List.range n).take i).filter (fun x => !decide (x ∈ sm)) ++ (if i ∈ sm then [] else [i]) := by
  rw [List.take_add_one, List.getElem?_range h, List.filter_append]
  congr 1
  show List.filter _ [i] = _
  rw [List.filter_cons]
  by_cases z : i ∈ sm
  · rw [if_pos z, if_neg (by simp [z])]; rfl
  · rw [if_neg z, if_pos (by simp [z])]; rfl
theorem inV_dec (x : Nat) (l : List Nat) : inV (vI x) (vL l) = decide (x ∈ l) := by
  by_cases h : x ∈ l
  · rw [inV_mem h, decide_eq_true h]
  · rw [inV_int h, decide_eq_false h]
section
variable {P : Program} {w : World} {K : PySem.W.Frag} {mg : Str → Option Value} {base : Heap}
theorem sc_law_heap_way : FnScope ["_law_row_here", "_law_order_here", "_law_arrangement", "_law_turn", "_law_at", "_law_asker", "_law_heap", "_law_most_here", "_law_x", "_law_some"] ["_law_row_here", "_law_order_here", "_law_arrangement", "_law_turn", "_law_at"] (defScope s_law_heap_way) := ⟨rfl, rfl, rfl, by decide +kernel, rfl, by decide +kernel, by decide +kernel⟩
theorem ok_law_heap_way (T : Hd K mg) : DOk P w K mg base 9 "_law_heap_way" ["_law_row_here", "_law_order_here", "_law_arrangement", "_law_turn", "_law_at"] (spWayT fun g ws => ∃ at_ : Nat, ws = [vI at_] ∧ at_ ≤ g.n) := by
  refine mkD T 80 56 rfl rfl sc_law_heap_way (fun _ _ _ _ _ _ us hl => match us, hl with | [_, _, _, _, _], _ => rfl) (fun vs H Q E h => ?_) (fun cdv A outer s H vs Q E hr h => ?_)
  · obtain ⟨g, ta, tn, ws, rfl, ⟨at_, rfl, _⟩, _⟩ := h; rfl
  · obtain ⟨g, ta, tn, ws, rfl, ⟨at_, rfl, hat⟩, hg, hT, hp, q⟩ := h
    refine ⟨_, (pss_cons (ps_set (i := 5) sc_law_heap_way.nd rfl (Or.inl rfl) (pe_mk (ok_Asker_init T) (hr.mono (by decide)) (pa_cons (pv 0) (pa_cons (pv 1) (pa_cons pe_non pa_nil)))))
      (pss_cons (ps_set (i := 6) sc_law_heap_way.nd rfl (Or.inl rfl) (pe_mk (ok_Heap_init T) (hr.mono (by decide)) (pa_cons (pv 5) pa_nil)))
      (pss_cons (ps_expr (pe_md (ok_Heap_put_all T) (hr.mono (by decide)) (pv 6) (pa_cons (pe_callTy call_tuple_of (by rfl) T.f_tuple (by decide +kernel) (pa_cons (pe_slice sl_list (pv 3) po_none (po_some (pv 4))) pa_nil)) pa_nil)))
      (pss_cons (ps_set (i := 7) sc_law_heap_way.nd rfl (Or.inl rfl) (pe_op op_mulN pe_int (pv 4)))
      (Evl.pss_cut (ps_for PassesOwn.never rfl (pi_list (pe_slice sl_list (pv 3) (po_some (pv 4)) po_none)) (pg_name (i := 8) sc_law_heap_way.nd rfl (Or.inl rfl))
        (pss_cons (ps_set (i := 7) sc_law_heap_way.nd rfl (Or.inl rfl) (pe_op op_addN (pv 7) (pe_cd (ok_law_twos T) (hr.mono (by decide)) (pa_cons (pe_op op_addN (pe_callB call_len_seq (by rfl) T.f_len (by decide +kernel) (pa_cons (pe_md0 (ok_Heap_held T) (hr.mono (by decide)) (pv 6)) pa_nil)) pe_int) pa_nil))))
        (pss_one (ps_expr (pe_md (ok_Heap_put T) (hr.mono (by decide)) (pv 6) (pa_cons (pv 8) pa_nil))))))
      (pss_cons (ps_set (i := 9) sc_law_heap_way.nd rfl (Or.inr rfl) (pe_lst pa_nil))
      (Evl.pss_cut (ps_while PassesOwn.never (pt_cmpR op_lt (pe_callB call_len_seq (by rfl) T.f_len (by decide +kernel) (pa_cons (pv 9) pa_nil)) (pe_callB call_len_seq (by rfl) T.f_len (by decide +kernel) (pa_cons (pv 0) pa_nil)) (nomark _))
        (pss_cons (ps_set (i := 7) sc_law_heap_way.nd rfl (Or.inl rfl) (pe_op op_addN (pv 7) (pe_op op_mulN pe_int (pe_cd (ok_law_twos T) (hr.mono (by decide)) (pa_cons (pe_op op_subN (pe_callB call_len_seq (by rfl) T.f_len (by decide +kernel) (pa_cons (pv 0) pa_nil)) (pe_callB call_len_seq (by rfl) T.f_len (by decide +kernel) (pa_cons (pv 9) pa_nil))) pa_nil)))))
        (pss_cons (ps_if (pt_cmpR (op_neD hr.units) (pe_md0 (ok_Heap_held T) (hr.mono (by decide)) (pv 6)) (pe_callTy call_tuple_of (by rfl) T.f_tuple (by decide +kernel) (pa_cons (pe_callB cr_sorted (by rfl) T.f_sorted (by decide +kernel) (pa_cons (pe_lc (own := [("_law_x", 8)]) (g := gName 8) rfl sc_law_heap_way.nd (pi_range1 (by rfl) T.f_range (pa_cons (pe_callB call_len_seq (by rfl) T.f_len (by decide +kernel) (pa_cons (pv 0) pa_nil)) pa_nil)) (blkOk_by (own := [("_law_x", 8)]) (N := ["_law_row_here", "_law_order_here", "_law_arrangement", "_law_turn", "_law_at", "_law_asker", "_law_heap", "_law_most_here", "_law_x", "_law_some"]) (sc := defScope s_law_heap_way) (by decide +kernel)) (fun _ _ _ _ _ => (pg_name (i := 8) sc_law_heap_way.nd rfl (Or.inl rfl))) (fun _ _ _ _ _ => (pts_one (pt_cmpR (op_notIn_seqK (K := K)) (pv 8) (pv 9) rfl))) (fun _ _ _ _ _ => (pv 8))) pa_nil)) pa_nil)) (nomark _))
          (pss_one (ps_ret pe_bl))
          pss_nil)
        (pss_cons (ps_expr (pe_bm PySem.F.plainAttrs_list PySem.F.slot_list_append PySem.F.type_list_append mt_append (pv 9) (pa_cons (pe_md0 (ok_Heap_first T) (hr.mono (by decide)) (pv 6)) pa_nil)))
        (pss_one (ps_if (pt_cmpR op_ne (pe_md0 (ok_Heap_take T) (hr.mono (by decide)) (pv 6)) (pe_ix ix_list (pv 9) (pe_un un_neg pe_int) (fun _ _ => rfl)) (nomark _))
          (pss_one (ps_ret pe_bl))
          pss_nil))))))
      (pss_one (ps_ret (pe_and (pe_cmpR (op_eqD hr.units) (pe_md0 (ok_Heap_held T) (hr.mono (by decide)) (pv 6)) (pe_tup pa_nil) (nomark _)) (pe_and (pe_cd (ok_law_same T) (hr.mono (by decide)) (pa_cons (pe_callTy call_tuple_of (by rfl) T.f_tuple (by decide +kernel) (pa_cons (pv 9) pa_nil)) (pa_cons (pv 2) pa_nil))) (pe_one (pe_cmpR op_le (pe_callB call_len_seq (by rfl) T.f_len (by decide +kernel) (pa_cons (pe_md0 (ok_Noted_book T) (hr.mono (by decide)) (pv 5)) pa_nil)) (pv 7) (nomark _)))))))))))))), ?_⟩
    have h60 := hg.c.n60
    have hnd : tn.Nodup := hp.nodup_iff.mpr List.nodup_range
    have hlen : tn.length = g.n := by rw [hp.length_eq, List.length_range]
    have hlt : ∀ x ∈ tn, x < g.n := fun x hx => List.mem_range.mp (hp.subset hx)
    have len := arr_length g.rk g.n
    obtain ⟨xs, hxs, hxl⟩ := row_len hg.hr
    have hxn : xs.length = g.n := by rw [hxl, hg.c.len]
    refine ⟨_, rfl, _, rfl, ?_⟩
    intro A sx hA nd ne
    refine ask_at hA nd ne hg.hr hg.ho hg.ok hg.th hg.c fun l H1 hl f1 ha => ?_
    refine ⟨_, rfl, ?_⟩
    intro S sy hS nd2 ne2
    have f0 : Fr [] H1 (upd (upd H1 sy (.own S)) S (.ins (He.ga K "Heap") sy [])) := (Fr.new nd2).fresh hS
    refine ⟨S, sy, _, 0, rfl, upd_same, ha.keep0 f0, fun TL H2 hTL f2 hh => ⟨rfl, ?_⟩⟩
    have F2 : Fr [] H1 H2 := (f0.up.trans f2).drop1 hS
    have ha2 := ha.keep0 F2
    have F02 := f1.trans F2
    have hS0 : H S = none := f1.none (by simp) hS
    have nT : ta ∉ [l, S] := by
      simp only [List.mem_cons, List.not_mem_nil, or_false, not_or]
      exact ⟨ne_of_none hT hl, ne_of_none hT hS0⟩
    obtain ⟨dx2, hS2⟩ := hh.hp
    have hT2 := F02.keep ta _ (by simp) hT
    refine ⟨_, rfl, S, dx2, _, rfl, hS2, rfl, _, rfl, _, rfl, at_, rfl, ta, _, rfl, SqL.of hT2, fun B hB => ?_⟩
    rw [cut_to _ _ (by rw [vL_length]; omega), vL_take]
    have fB : Fr [] H2 (upd H2 B (.lst (vL (tn.take at_)))) := Fr.new hB
    have eB : upd H2 B (.lst (vL (tn.take at_))) B = _ := upd_same
    refine ⟨B, _, rfl, .inl ⟨SqL.of eB, fun t ht => ?_⟩⟩
    have ft := fB.trans (Fr.new (o := .tup (vL (tn.take at_))) ht)
    have htl : (tn.take at_).length = at_ := by rw [List.length_take]; omega
    have hnt : (tn.take at_).Nodup := (List.take_sublist _ _).nodup hnd
    obtain ⟨U0, u1, u2⟩ := HOk.all (r := g.rk) hnt (by omega)
    have hb := (bd_ok (r := g.rk) ((tn.take at_).length / 2) (tn.take at_) (by omega) (half_heap _ _)).2.1
    refine ⟨_, 0, S, TL, t, tn.take at_, rfl, ha2.keep0 ft, hh.keep0 ft, upd_same, hnt, fun y hy => hlt y (List.mem_of_mem_take hy), by omega, ?_, fun TL' H3 hTL' f3 ha3 hh3 => ?_⟩
    · show 0 + (bd g.rk (tn.take at_) ((tn.take at_).length / 2)).2 < 90000
      omega
    have F3 : Fr [l, S] H H3 := (F02.trans ft).up.trans f3
    refine ⟨_, rfl, 2, at_, rfl, rfl, by decide, ?_⟩
    obtain ⟨tr, htr⟩ : ∃ tr, tr = (bd g.rk (tn.take at_) ((tn.take at_).length / 2)).1 := ⟨_, rfl⟩
    rw [← htr] at u1 hb
    have hh3 : HeapAt K ⟨A, sx, l, g.r, g.o, g.n, g.rk, g.rows, g.ord⟩ S TL' tr H3 := by rw [htr]; exact hh3
    have hq0 : 0 + (bd g.rk (tn.take at_) ((tn.take at_).length / 2)).2 ≤ 2 * at_ := by omega
    generalize 0 + (bd g.rk (tn.take at_) ((tn.take at_).length / 2)).2 = q0 at ha3 hq0
    have hTL0 : H TL' = none := F02.none (by simp) (ft.none (by simp) hTL')
    refine ⟨fun σ' H' => Fr [l, S] H H' ∧ ∃ (q1 M : Nat) (TL : Addr) (tr U : List Nat) (z8 : Option V), σ' = [some (.ref g.r), some (.ref g.o), some (.ref g.a), some (.ref ta), some (vI at_), some (.ref A), some (.ref S), some (vI M), z8, none] ∧ AskAt K ⟨A, sx, l, g.r, g.o, g.n, g.rk, g.rows, g.ord⟩ q1 H' ∧ HeapAt K ⟨A, sx, l, g.r, g.o, g.n, g.rk, g.rows, g.ord⟩ S TL tr H' ∧ HOk g.rk tr U ∧ tr.Perm tn ∧ q1 ≤ M ∧ M ≤ 4000, ?_, ?_⟩
    · refine ⟨_, rfl, _, rfl, at_, rfl, ?_⟩
      have hT3 := F3.keep ta _ nT hT
      refine ⟨ta, _, rfl, SqL.of hT3, fun C hC => ?_⟩
      rw [cut_from _ _ (by rw [vL_length]; omega), vL_drop]
      have fC : Fr [] H3 (upd H3 C (.lst (vL (tn.drop at_)))) := Fr.new hC
      have eC : upd H3 C (.lst (vL (tn.drop at_))) C = _ := upd_same
      have ha4 := ha3.keep0 fC
      have hh4 := hh3.keep0 fC
      have F4 := F3.trans (fC.up (xs := [l, S]))
      have nC : C ∉ [l, S] := by
        obtain ⟨bk, z, _⟩ := ha3.hl
        obtain ⟨dx3, hS3⟩ := hh3.hp
        simp only [List.mem_cons, List.not_mem_nil, or_false, not_or]
        exact ⟨(ne_of_none z hC).symm, (ne_of_none hS3 hC).symm⟩
      generalize upd H3 C (.lst (vL (tn.drop at_))) = H4 at fC eC ha4 hh4 F4
      refine ⟨C, rfl, ⟨_, SqL.of eC⟩, for_it (walk_list (xs := vL (tn.drop at_))) (fun i σ H' => Fr [l, S] H4 H' ∧ ∃ (q1 M : Nat) (TL : Addr) (tr U : List Nat) (z8 : Option V), σ = [some (.ref g.r), some (.ref g.o), some (.ref g.a), some (.ref ta), some (vI at_), some (.ref A), some (.ref S), some (vI M), z8, none] ∧ AskAt K ⟨A, sx, l, g.r, g.o, g.n, g.rk, g.rows, g.ord⟩ q1 H' ∧ HeapAt K ⟨A, sx, l, g.r, g.o, g.n, g.rk, g.rows, g.ord⟩ S TL tr H' ∧ HOk g.rk tr U ∧ tr.Perm (tn.take (at_ + i)) ∧ q1 ≤ M ∧ M ≤ 2 * at_ + 6 * i) ⟨Fr.refl _ _, q0, 2 * at_, TL', tr, U0, _, rfl, ha4, hh4, u1, hb, hq0, Nat.le_refl _⟩ (fun _ _ _ _ p => SqL.of (p.1.keep C _ nC eC)) ?_ ?_⟩
      · rintro i v σ H5 H6 hi ⟨f5, q1, M, TL1, tr1, U1, z8, rfl, ha5, hh5, ho5, hp5, hq5, hM5⟩ ⟨rfl, hx⟩
        obtain ⟨y, hy, rfl⟩ := map_get hx
        rw [vL_length, List.length_drop] at hi
        have hy2 : tn[at_ + i]? = some y := by rw [← hy, List.getElem?_drop]
        have htl1 : tr1.length = at_ + i := by rw [hp5.length_eq, List.length_take]; omega
        obtain ⟨dx5, hS5⟩ := hh5.hp
        refine ⟨_, rfl, _, rfl, S, dx5, _, rfl, hS5, rfl, _, S, TL1, tr1, rfl, hh5, by omega, fun hl1 t1 H6 hp6 hw6 f6 e6 => ?_⟩
        have hh6 := hh5.keep0 f6
        have ha6 := ha5.keep0 f6
        refine ⟨t1, _, rfl, .inr (SqT.of e6), hl1.length, 1, by rw [vL_length], rfl, ?_⟩
        rw [hp6.length_eq, htl1]
        refine ⟨at_ + i + 1, rfl, by omega, fun H7 f7 => ?_⟩
        have htw : twos (at_ + i + 1) ≤ 6 := twos64 (by omega)
        refine ⟨M, twos (at_ + i + 1), rfl, rfl, ?_⟩
        have hh7 := hh6.keep0 f7
        have ha7 := ha6.keep0 f7
        obtain ⟨dx7, hS7⟩ := hh7.hp
        have hyn := hlt y (List.mem_of_getElem? hy2)
        have hnot : y ∉ tr1 := fun z => take_mem_not hnd hy2 (hp5.subset z)
        obtain ⟨U2, o1, o2, o3⟩ := ho5.put y hnot
        rw [htl1] at o1 o3
        refine ⟨_, rfl, S, dx7, _, rfl, hS7, rfl, _, rfl, _, q1, S, TL1, tr1, y, rfl, ha7, hh7, fun z hz => hlt z (List.mem_of_mem_take (hp5.subset hz)), hyn, hnot, by omega, ?_, fun TL2 H8 hTL2 f8 ha8 hh8 => ?_⟩
        · show q1 + (up g.rk y (tr1 ++ [y]) tr1.length).2 < 90000
          rw [htl1]; omega
        · rw [htl1] at ha8 hh8
          refine ⟨f5.trans ((f6.trans f7).up.trans f8), _, M + twos (at_ + i + 1), TL2, _, U2, _, rfl, ha8, hh8, o1, ?_, ?_, by omega⟩
          · rw [show at_ + (i + 1) = at_ + i + 1 by omega]
            exact perm_take_succ hy2 ((o1.perm.trans o2).trans ((List.perm_cons y).mpr (ho5.perm.symm.trans hp5)))
          · show q1 + (up g.rk y (tr1 ++ [y]) (at_ + i)).2 ≤ M + twos (at_ + i + 1)
            omega
      · rintro σ H5 ⟨f5, q1, M, TL1, tr1, U1, z8, rfl, ha5, hh5, ho5, hp5, hq5, hM5⟩
        rw [vL_length, List.length_drop] at hp5 hM5
        rw [show at_ + (tn.length - at_) = tn.length by omega, List.take_length] at hp5
        exact ⟨F4.trans f5, q1, M, TL1, tr1, U1, z8, rfl, ha5, hh5, ho5, hp5, hq5, by omega⟩
    · rintro σ' H4 ⟨F4, q1, M, TL1, tr1, U1, z8, rfl, ha4, hh4, ho4, hp4, hq4, hM4⟩
      refine ⟨Nat.zero_le _, fun X hX => ?_⟩
      have fX : Fr [] H4 (upd H4 X (.lst [])) := Fr.new hX
      have eX : upd H4 X (.lst []) X = _ := upd_same
      have ha5 := ha4.keep0 fX
      have hh5 := hh4.keep0 fX
      have nX : X ∉ [l, S] := by
        obtain ⟨bk, z, _⟩ := ha4.hl
        obtain ⟨dx3, hS3⟩ := hh4.hp
        simp only [List.mem_cons, List.not_mem_nil, or_false, not_or]
        exact ⟨(ne_of_none z hX).symm, (ne_of_none hS3 hX).symm⟩
      have nXT : TL1 ≠ X := ne_of_none hh4.hl hX
      have hX0 : H4 X = none := hX
      have earr : U1 = arr g.rk g.n := arr_of (ho4.perm.symm.trans (hp4.trans hp)) ho4.pw
      generalize upd H4 X (.lst []) = H5 at fX eX ha5 hh5
      refine ⟨fun σ' H' => Fr [l, S, X] H5 H' ∧ ∃ (q1 M : Nat) (TL : Addr) (tr sm : List Nat) (z8 : Option V), σ' = [some (.ref g.r), some (.ref g.o), some (.ref g.a), some (.ref ta), some (vI at_), some (.ref A), some (.ref S), some (vI M), z8, some (.ref X)] ∧ AskAt K ⟨A, sx, l, g.r, g.o, g.n, g.rk, g.rows, g.ord⟩ q1 H' ∧ HeapAt K ⟨A, sx, l, g.r, g.o, g.n, g.rk, g.rows, g.ord⟩ S TL tr H' ∧ HOk g.rk tr [] ∧ H' X = some (.lst (vL sm)) ∧ sm = arr g.rk g.n ∧ q1 ≤ M, ?_, ?_⟩
      · refine ⟨fun m σ' H' => Fr [l, S, X] H5 H' ∧ ∃ (q1 M : Nat) (TL : Addr) (tr sm U : List Nat) (z8 : Option V), m = U.length ∧ σ' = [some (.ref g.r), some (.ref g.o), some (.ref g.a), some (.ref ta), some (vI at_), some (.ref A), some (.ref S), some (vI M), z8, some (.ref X)] ∧ AskAt K ⟨A, sx, l, g.r, g.o, g.n, g.rk, g.rows, g.ord⟩ q1 H' ∧ HeapAt K ⟨A, sx, l, g.r, g.o, g.n, g.rk, g.rows, g.ord⟩ S TL tr H' ∧ TL ≠ X ∧ HOk g.rk tr U ∧ H' X = some (.lst (vL sm)) ∧ sm ++ U = arr g.rk g.n ∧ q1 ≤ M ∧ M + 12 * U.length ≤ 5000, ⟨_, Fr.refl _ _, q1, M, TL1, tr1, [], U1, z8, rfl, rfl, ha5, hh5, nXT, ho4, eX, earr, hq4, by rw [earr, len]; omega⟩, ?_⟩
        rintro m σ H6 ⟨f6, q2, M2, TL2, tr2, sm, U2, z8, rfl, rfl, ha6, hh6, nTX, ho6, eX6, hsm, hq6, hM6⟩
        have hslen : sm.length + U2.length = g.n := by rw [← len, ← hsm, List.length_append]
        have hxs6 := f6.tup _ _ (fX.tup _ _ (F4.tup _ _ hxs))
        refine ⟨_, rfl, X, _, rfl, .inl (SqL.of eX6), _, rfl, g.r, xs, rfl, .inr (SqT.of hxs6), _, _, rfl, rfl, _, rfl, ?_⟩
        rw [hxn, vL_length]
        refine itD (fun lt => ?_) (fun nlt => ?_)
        · have lt : sm.length < g.n := by omega
          obtain ⟨a, U3, rfl⟩ : ∃ a U3, U2 = a :: U3 := by
            cases U2 with
            | nil => rw [List.length_nil] at hslen; omega
            | cons a U3 => exact ⟨a, U3, rfl⟩
          have htl2 : tr2.length = g.n - sm.length := by rw [ho6.perm.length_eq]; omega
          have hU3 : (a :: U3).length = U3.length + 1 := rfl
          obtain ⟨k1, k2⟩ := ho6.take
          have hfirst := ho6.first
          have htne : tr2 ≠ [] := fun z => by rw [z] at htl2; have : (0 : Nat) = g.n - sm.length := htl2; omega
          have hsmem : ∀ y ∈ tr2, y < g.n := fun y hy => by
            have : y ∈ arr g.rk g.n := by rw [← hsm]; exact List.mem_append_right _ (ho6.perm.subset hy)
            exact arr_mem.mp this
          refine ⟨_, fun _ _ h => h, _, rfl, _, rfl, g.r, xs, rfl, .inr (SqT.of hxs6), _, rfl, X, _, rfl, .inl (SqL.of eX6), g.n, sm.length, by rw [hxn], by rw [vL_length], by omega, g.n - sm.length, rfl, by omega, fun H7 f7 => ?_⟩
          have htw : twos (g.n - sm.length) ≤ 6 := twos64 (by omega)
          refine ⟨2, twos (g.n - sm.length), rfl, rfl, by decide, M2, 2 * twos (g.n - sm.length), rfl, rfl, ?_⟩
          have hh7 := hh6.keep0 f7
          have ha7 := ha6.keep0 f7
          have eX7 := f7.keep X _ (by simp) eX6
          obtain ⟨dx7, hS7⟩ := hh7.hp
          refine ⟨_, rfl, S, dx7, _, rfl, hS7, rfl, _, S, TL2, tr2, rfl, hh7, by omega, fun hl1 t1 H8 hp8 hw8 f8 e8 => ?_⟩
          have F8 := f7.trans f8
          have hxs8 := F8.tup _ _ hxs6
          refine ⟨_, rfl, g.r, xs, rfl, .inr (SqT.of hxs8), ?_⟩
          rw [hxn]
          have eX8 := f8.keep X _ (by simp) eX7
          refine ⟨(g.n : Int), rfl, by omega, by omega, fun D hD => lc_it (walk_range0 (n := ((g.n : Nat) : Int).toNat)) (fun i H' => Fr [] H8 H' ∧ H' D = some (.lst (vL (((List.range g.n).take i).filter fun x => !decide (x ∈ sm))))) ⟨Fr.new hD, upd_same⟩ (fun _ _ _ _ => trivial) ?_ ?_⟩
          · rintro i x H9 H10 hi ⟨f9, e9⟩ ⟨rfl, rfl⟩
            have hi : i < g.n := by omega
            have tl := take_left g.n sm i hi
            have hlen9 : (((List.range g.n).take i).filter fun x => !decide (x ∈ sm)).length ≤ 60 := Nat.le_trans (List.length_filter_le _ _) (by rw [List.length_take]; omega)
            refine ⟨rfl, ?_⟩
            refine ⟨_, rfl, _, rfl, X, _, rfl, .inl (SqL.of (f9.keep X _ (by simp) eX8)), rfl, vL_flat _, ?_⟩
            rw [if_pos rfl, inV_dec]
            refine ⟨_, rfl, itN (fun ni => ?_) (fun yi => ?_)⟩
            · rw [if_neg ni] at tl
              refine ⟨_, rfl, _, e9, by rw [vL_length]; exact sz_lt (by omega), f9.fresh hD, ?_⟩
              rw [upd_same, tl, ← vL_append]
              rfl
            · rw [if_pos yi, List.append_nil] at tl
              exact ⟨f9, by rw [tl]; exact e9⟩
          · rintro H9 ⟨f9, e9⟩
            have e9 : H9 D = some (.lst (vL (left g.n sm))) := by
              rw [Int.toNat_natCast, List.take_of_length_le (by rw [List.length_range]; exact Nat.le_refl _)] at e9
              exact e9
            rw [vL_ints] at e9
            have pleft : (a :: U3).Perm (left g.n sm) := left_perm (by rw [hsm]; exact arr_perm _ _)
            refine ⟨D, _, rfl, SqL.of e9, by rw [List.length_map, ← pleft.length_eq]; omega, fun ns p hpn hwn hnp => ?_⟩
            obtain ⟨m, rfl, m1, m2⟩ := vL_nats _ ns hpn hwn
            rw [← vL_ints]
            refine ⟨p, _, rfl, .inl ⟨SqL.of upd_same, fun u hu => ?_⟩⟩
            have f10 := f9.trans ((Fr.new (o := .lst (vL m)) hnp).trans (Fr.new (o := .tup (vL m)) hu))
            refine ne_tup (f10.tup _ _ e8) upd_same ?_
            have hm : hl1 = m := sorted_same (hp8.trans (ho6.perm.trans (pleft.trans m1.symm))) hw8 m2 (hp8.nodup_iff.mpr (ho6.perm.nodup_iff.mpr (by
              have := arr_nodup g.rk g.n
              rw [← hsm] at this
              exact (List.nodup_append.mp this).2.1)))
            rw [decide_eq_true hm]
            have F10 := F8.trans f10
            have eX10 := F10.keep X _ (by simp) eX6
            have hh10 := hh6.keep0 F10
            have ha10 := ha6.keep0 F10
            obtain ⟨dx10, hS10⟩ := hh10.hp
            refine ⟨_, rfl, ?_⟩
            refine ⟨_, rfl, .inl ⟨rfl, _, SqL.of eX10⟩, ?_⟩
            refine ⟨_, rfl, S, dx10, _, rfl, hS10, rfl, _, S, TL2, tr2, rfl, hh10, htne, fun H11 f11 => ?_⟩
            rw [hfirst]
            have eX11 := f11.keep X _ (by simp) eX10
            refine ⟨X, _, _, rfl, rfl, eX11, by rw [vL_length]; exact sz_lt (by omega), ?_⟩
            have nXS : S ≠ X := fun z => nX (by simp [z])
            have nXl : X ≠ l := fun z => nX (by simp [z])
            have hh12 := (hh10.keep0 f11).keep (Fr.put1 (o := .lst (vL sm ++ [vI a])) eX11 rfl) (by simpa using nXS) (by simpa using nTX)
            have ha12 := (ha10.keep0 f11).putL (ys := vL sm ++ [vI a]) eX11 nXl
            have F12 : Fr [l, S, X] H5 (upd H11 X (.lst (vL sm ++ [vI a]))) := (f6.trans ((F10.trans f11).up)).trans (Fr.put (by simp) eX11 rfl)
            have eX12 : upd H11 X (.lst (vL sm ++ [vI a])) X = _ := upd_same
            obtain ⟨dx12, hS12⟩ := hh12.hp
            generalize upd H11 X (.lst (vL sm ++ [vI a])) = H12 at hh12 ha12 F12 eX12 hS12
            refine ⟨_, rfl, S, dx12, _, rfl, hS12, rfl, _, q2, S, TL2, tr2, rfl, ha12, hh12, htne, hsmem, by omega, ?_, fun TL3 H13 hTL3 f13 ha13 hh13 => ?_⟩
            · show q2 + (tk g.rk tr2).2 < 90000
              rw [htl2] at k2
              omega
            have eX13 := f13.keep X _ nX eX12
            refine ⟨_, rfl, _, rfl, X, _, _, _, rfl, rfl, SqL.of eX13, atI_last _ _, ?_⟩
            rw [hfirst]
            refine ⟨rfl, _, rfl, itN (fun ne => absurd rfl ne) (fun _ => ?_)⟩
            rw [htl2] at k2
            refine ⟨U3.length, by omega, F12.trans (f13.mono (by simp)), _, M2 + 2 * twos (g.n - sm.length), TL3, _, sm ++ [a], U3, _, rfl, rfl, ha13, hh13, (ne_of_none eX12 hTL3).symm, k1, ?_, ?_, ?_, by omega⟩
            · rw [eX13, show [vI a] = vL [a] from rfl, vL_append]
            · rw [List.append_assoc]; exact hsm
            · show q2 + (tk g.rk tr2).2 ≤ M2 + 2 * twos (g.n - sm.length)
              omega
        · have e : U2 = [] := List.length_eq_zero_iff.mp (by omega)
          subst e
          rw [List.append_nil] at hsm
          exact ⟨f6, q2, M2, TL2, tr2, sm, z8, rfl, ha6, hh6, ho6, eX6, hsm, hq6⟩
      · rintro σ' H6 ⟨f6, q2, M2, TL2, tr2, sm, z8, rfl, ha6, hh6, ho6, eX6, hsm, hq6⟩
        have htr : tr2 = [] := List.perm_nil.mp ho6.perm
        subst hsm
        obtain ⟨dx6, hS6⟩ := hh6.hp
        refine ⟨_, rfl, S, dx6, _, rfl, hS6, rfl, _, S, TL2, tr2, rfl, hh6, by rw [htr]; decide, fun hl1 t1 H7 hp7 hw7 f7 e7 => ?_⟩
        rw [htr] at hp7
        rw [List.perm_nil.mp hp7] at e7
        refine ⟨Nat.zero_le _, fun b hb => ?_⟩
        have f8 := f7.trans (Fr.new (o := .tup []) hb)
        refine eq_tup (m := []) ((Fr.new (xs := []) (o := .tup []) hb).tup _ _ e7) upd_same ?_
        rw [decide_eq_true rfl]
        refine ⟨true, rfl, ?_⟩
        have eX8 := f8.keep X _ (by simp) eX6
        refine ⟨_, rfl, X, _, rfl, .inl ⟨SqL.of eX8, fun t ht => ?_⟩⟩
        have ft := f8.trans (Fr.new (o := .tup (vL (arr g.rk g.n))) ht)
        have hA0 := ft.tup _ _ (f6.tup _ _ (fX.tup _ _ (F4.tup _ _ hg.ha)))
        refine ⟨_, rfl, t, g.a, _, rfl, upd_same, hA0, by rw [len]; omega, fun H9 f9 => ⟨true, rfl, ?_⟩⟩
        have ha9 := (ha6.keep0 ft).keep0 f9
        refine ⟨_, rfl, A, sx, _, rfl, ha9.hp, rfl, _, _, rfl, ha9, fun v bk H10 hv0 hv hbk f10 => ⟨v, bk, rfl, .inr (SqT.of hv), ?_⟩⟩
        rw [hbk]
        refine ⟨_, rfl, _, _, rfl, rfl, ?_⟩
        have Fend := (F4.mono (ys := [l, S, X]) (by simp)).trans ((fX.up (xs := [l, S, X])).trans (f6.trans (((ft.trans f9).trans f10).up)))
        have fin := q H10 (Fend.drop fun b hb => ?_)
        · rw [← decide_eq_true (show ((q2 : Nat) : Int) ≤ ((M2 : Nat) : Int) by omega)] at fin
          exact fin
        · simp only [List.mem_cons, List.not_mem_nil, or_false] at hb
          rcases hb with rfl | rfl | rfl
          · exact .inr hl
          · exact .inr hS0
          · refine .inr (F4.none nX hX0)
end
end NR

set_option maxRecDepth 100000
set_option maxHeartbeats 4000000
/-! The law's draws. -/
namespace NR
open PySem PySem.Spec PyProof.Rows L2 NM
def spCell (K : PySem.W.Frag) : Sp := fun vs H Q _ => ∃ (s : Addr) (ns : List Int) (k : Nat), vs = [.ref s, vI k] ∧ SqL K H s (ns.map V.int) ∧ k ≤ 1000 ∧ ∀ (i : Int) H', Fr [] H H' → Q (.int i) H'
def spDraws : Sp := fun vs H Q _ => ∃ (c : Int) (m : Nat), vs = [.int c, vI m] ∧ m ≤ 1000 ∧ ∀ (D : Addr) (H' : Hp) (zs : List Nat), zs.length = m → H D = none → Fr [] H H' → H' D = some (.lst (vL zs)) → (∀ z ∈ zs, z < 1000000007) → Q (.ref D) H'
def spLMany : Sp := fun vs H Q _ => ∃ x : Nat, vs = [vI x] ∧ ∀ (n : Nat) H', n ≤ 60 → Fr [] H H' → Q (vI n) H'
def spWord : Sp := fun vs H Q _ => ∃ x y : Nat, vs = [vI x, vI y] ∧ x < 1000000007 ∧ y < 1000000007 ∧ ∀ (z : Str) H', KeyOk (.inr z) → Fr [] H H' → Q (.str z) H'
theorem vL_snoc (zs : List Nat) (i : Int) (h : 0 ≤ i) : vL zs ++ [V.int i] = vL (zs ++ [i.toNat]) := by
  rw [← vL_append]
  congr 1
  show [V.int i] = [V.int ((i.toNat : Nat) : Int)]
  rw [show ((i.toNat : Nat) : Int) = i by omega]
section
variable {P : Program} {w : World} {K : PySem.W.Frag} {mg : Str → Option Value} {base : Heap}
theorem sc_law_cell : FnScope ["_law_script", "_law_k", "_law_state", "_law_cell_here"] ["_law_script", "_law_k"] (defScope s_law_cell) := ⟨rfl, rfl, rfl, by decide +kernel, rfl, by decide +kernel, by decide +kernel⟩
theorem ok_law_cell (T : Hd K mg) : DOk P w K mg base 1 "_law_cell" ["_law_script", "_law_k"] (spCell K) := by
  refine mkD T 61 37 rfl rfl sc_law_cell (fun _ _ _ _ _ _ us hl => match us, hl with | [_, _], _ => rfl) (fun vs H Q E h => ?_) (fun cdv A outer s H vs Q E hr h => ?_)
  · obtain ⟨s, ns, k, rfl, _⟩ := h; rfl
  · obtain ⟨sa, ns, k, rfl, hs, hk, q⟩ := h
    refine ⟨_, (pss_cons (ps_if (pt_cmpR op_lt (pv 1) (pe_callB call_len_seq (by rfl) T.f_len (by decide +kernel) (pa_cons (pv 0) pa_nil)) (nomark _))
        (pss_one (ps_ret (pe_ix ix_list (pv 0) (pv 1) (fun _ _ => rfl))))
        pss_nil)
      (pss_cons (ps_set (i := 2) sc_law_cell.nd rfl (Or.inl rfl) (pe_op op_mod (pe_op op_mul pe_int (pe_op op_add (pe_op op_add (pe_op op_mul (pv 1) (pv 1)) (pe_op op_mul pe_int (pv 1))) pe_int)) pe_int))
      (pss_cons (ps_for PassesOwn.never rfl (pi_list (pe_slice sl_list (pv 0) po_none (po_some pe_int))) (pg_name (i := 3) sc_law_cell.nd rfl (Or.inl rfl))
        (pss_one (ps_set (i := 2) sc_law_cell.nd rfl (Or.inl rfl) (pe_op op_mod (pe_op op_add (pe_op op_mul (pv 2) pe_int) (pv 3)) pe_int))))
      (pss_one (ps_ret (pv 2)))))), ?_⟩
    refine ⟨_, rfl, _, rfl, sa, _, rfl, .inl hs, _, _, rfl, rfl, _, rfl, itD (fun lt => ?_) (fun _ => ?_)⟩
    · have lt : k < ns.length := by rw [List.length_map] at lt; omega
      exact ⟨_, rfl, _, rfl, sa, _, _, _, rfl, rfl, hs, atI_nat (map_some (List.getElem?_eq_getElem lt)), q _ H (Fr.refl _ _)⟩
    · refine ⟨_, rfl, _, rfl, _, _, rfl, rfl, .inl ⟨by omega, by omega⟩, _, rfl, _, _, rfl, rfl, .inl ⟨by decide, by decide⟩, _, _, rfl, rfl, _, _, rfl, rfl, _, _, rfl, rfl, .inl ⟨by decide, by decide⟩, _, _, rfl, rfl, (by show (0 : Int) < _; decide), ?_⟩
      refine ⟨_, rfl, _, rfl, sa, _, rfl, hs, fun B hB => ?_⟩
      have fB : Fr [] H (upd H B (.lst (cutV (ns.map V.int) none (some 4)))) := Fr.new hB
      obtain ⟨ms, hms⟩ : ∃ ms : List Int, cutV (ns.map V.int) none (some 4) = ms.map V.int := by
        unfold cutV
        rw [HT.sIx_none, List.drop_zero, ← List.map_take]
        exact ⟨_, rfl⟩
      have eB : upd H B (.lst (cutV (ns.map V.int) none (some 4))) B = some (.lst (ms.map V.int)) := by rw [upd_same, hms]
      generalize upd H B (.lst (cutV (ns.map V.int) none (some 4))) = H1 at fB eB
      refine ⟨B, rfl, ⟨_, SqL.of eB⟩, for_it (walk_list (xs := ms.map V.int)) (fun i σ H' => Fr [] H1 H' ∧ ∃ (st : Int) (z : Option V), σ = [some (.ref sa), some (vI k), some (.int st), z]) ⟨Fr.refl _ _, _, _, rfl⟩ (fun _ _ _ _ p => SqL.of (p.1.keep B _ (by simp) eB)) ?_ ?_⟩
      · rintro i v σ H2 H3 hi ⟨f, st, z, rfl⟩ ⟨rfl, hx⟩
        obtain ⟨y, hy, rfl⟩ := map_get hx
        exact ⟨_, rfl, _, _, rfl, rfl, .inr ⟨by decide, by decide⟩, _, rfl, _, _, rfl, rfl, _, _, rfl, rfl, (by show (0 : Int) < _; decide), f, _, _, rfl⟩
      · rintro σ H2 ⟨f, st, z, rfl⟩
        exact ⟨_, rfl, q _ _ (fB.trans f)⟩
theorem sc_law_draws : FnScope ["_law_cell_here", "_law_many_here", "_law_left", "_law_state", "_law_some", "_law_k"] ["_law_cell_here", "_law_many_here"] (defScope s_law_draws) := ⟨rfl, rfl, rfl, by decide +kernel, rfl, by decide +kernel, by decide +kernel⟩
theorem ok_law_draws (T : Hd K mg) : DOk P w K mg base 1 "_law_draws" ["_law_cell_here", "_law_many_here"] spDraws := by
  refine mkD T 62 38 rfl rfl sc_law_draws (fun _ _ _ _ _ _ us hl => match us, hl with | [_, _], _ => rfl) (fun vs H Q E h => ?_) (fun cdv A outer s H vs Q E hr h => ?_)
  · obtain ⟨c, m, rfl, _⟩ := h; rfl
  · obtain ⟨c, m, rfl, hm, q⟩ := h
    refine ⟨_, (pss_cons (ps_set (i := 2) sc_law_draws.nd rfl (Or.inl rfl) (pe_ix ix_list (pe_lst (pa_cons pe_int (pa_cons (pv 0) pa_nil))) (pe_callTy call_int1 (by rfl) T.f_int (by decide +kernel) (pa_cons (pe_cmpR op_ge (pv 0) (pe_op op_pow pe_int pe_int) (nomark _)) pa_nil)) (fun _ _ => rfl)))
      (pss_cons (ps_set (i := 3) sc_law_draws.nd rfl (Or.inl rfl) (pe_op op_mod (pe_op op_add (pe_op op_mul (pe_op op_mod (pv 0) pe_int) pe_int) pe_int) pe_int))
      (pss_cons (ps_set (i := 4) sc_law_draws.nd rfl (Or.inl rfl) (pe_lst pa_nil))
      (pss_cons (ps_for PassesOwn.never rfl (pi_range1 (by rfl) T.f_range (pa_cons (pv 1) pa_nil)) (pg_name (i := 5) sc_law_draws.nd rfl (Or.inl rfl))
        (pss_cons (ps_set (i := 3) sc_law_draws.nd rfl (Or.inl rfl) (pe_op op_mod (pe_op op_add (pe_op op_add (pe_op op_mul (pv 3) (pe_op op_add (pe_op op_mod (pv 3) pe_int) pe_int)) (pe_op op_mul pe_int (pv 5))) pe_int) pe_int))
        (pss_cons (ps_expr (pe_bm PySem.F.plainAttrs_list PySem.F.slot_list_append PySem.F.type_list_append mt_append (pv 4) (pa_cons (pe_ix ix_list (pe_lst (pa_cons (pv 3) (pa_cons (pe_op op_mod (pv 2) pe_int) pa_nil))) (pe_callTy call_int1 (by rfl) T.f_int (by decide +kernel) (pa_cons (pe_cmpR op_gt (pv 2) pe_int (nomark _)) pa_nil)) (fun _ _ => rfl)) pa_nil)))
        (pss_one (ps_set (i := 2) sc_law_draws.nd rfl (Or.inl rfl) (pe_op op_fdiv (pv 2) pe_int))))))
      (pss_one (ps_ret (pv 4))))))), ?_⟩
    refine ⟨_, rfl, by show 2 ≤ sizeLine; decide, fun a ha => ?_⟩
    have fa : Fr [] H (upd H a (.lst [.int 0, .int c])) := Fr.new ha
    have ea : upd H a (.lst [.int 0, .int c]) a = _ := upd_same
    generalize upd H a (.lst [.int 0, .int c]) = H1 at fa ea
    refine ⟨_, rfl, _, _, rfl, rfl, ⟨by decide, by decide, by decide⟩, _, _, rfl, rfl, .inr ⟨_, rfl, ?_⟩⟩
    obtain ⟨lf, hlf⟩ : ∃ lf : Int, atI [V.int 0, V.int c] (if decide ((10 : Int) ^ (18 : Int).toNat ≤ c) = true then 1 else 0) = some (V.int lf) := by
      by_cases z : (10 : Int) ^ (18 : Int).toNat ≤ c
      · rw [decide_eq_true z]; exact ⟨c, rfl⟩
      · rw [decide_eq_false z]; exact ⟨0, rfl⟩
    refine ⟨a, _, _, _, rfl, rfl, SqL.of ea, hlf, ?_⟩
    have m1 := Int.emod_nonneg c (show (998244353 : Int) ≠ 0 by decide)
    have m2 := Int.emod_lt_of_pos c (show (0 : Int) < 998244353 by decide)
    refine ⟨_, rfl, _, _, rfl, rfl, (by show (0 : Int) < _; decide), _, _, rfl, rfl, .inr ⟨by decide, by decide⟩, _, _, rfl, rfl, _, _, rfl, rfl, (by show (0 : Int) < _; decide), ?_⟩
    have s1 := Int.emod_nonneg (c % 998244353 * 7919 + 101) (show (998244353 : Int) ≠ 0 by decide)
    have s2 := Int.emod_lt_of_pos (c % 998244353 * 7919 + 101) (show (0 : Int) < 998244353 by decide)
    refine ⟨Nat.zero_le _, fun L hL => ?_⟩
    have fL : Fr [] H1 (upd H1 L (.lst [])) := Fr.new hL
    have eL : upd H1 L (.lst []) L = _ := upd_same
    have hL0 := fa.none (by simp) hL
    have F1 := fa.trans fL
    generalize upd H1 L (.lst []) = H2 at fL eL F1
    refine ⟨_, rfl, (m : Int), rfl, by omega, by omega, ?_⟩
    refine for_it (walk_range0 (n := ((m : Nat) : Int).toNat)) (fun i σ H' => Fr [L] H2 H' ∧ ∃ (lf st : Int) (z : Option V) (zs : List Nat), σ = [some (.int c), some (vI m), some (.int lf), some (.int st), some (.ref L), z] ∧ 0 ≤ st ∧ st < 1000000007 ∧ zs.length = i ∧ H' L = some (.lst (vL zs)) ∧ ∀ z ∈ zs, z < 1000000007) ⟨Fr.refl _ _, lf, _, _, [], rfl, s1, by omega, rfl, eL, fun z hz => by cases hz⟩ (fun _ _ _ _ _ => trivial) ?_ ?_
    · rintro i v σ H3 H4 hi ⟨f3, lf, st, z, zs, rfl, t1, t2, hz, e3, hb⟩ ⟨rfl, rfl⟩
      have hi : i < m := by omega
      refine ⟨_, rfl, _, rfl, _, _, rfl, rfl, (by show (0 : Int) < _; decide), _, _, rfl, rfl, _, _, rfl, rfl, .inl ⟨by omega, by omega⟩, _, rfl, _, _, rfl, rfl, .inl ⟨by decide, by decide⟩, _, _, rfl, rfl, _, _, rfl, rfl, _, _, rfl, rfl, (by show (0 : Int) < _; decide), ?_⟩
      have r1 := Int.emod_nonneg (st * (st % 32749 + 31337) + 613 * (i : Int) + 29) (show (1000000007 : Int) ≠ 0 by decide)
      have r2 := Int.emod_lt_of_pos (st * (st % 32749 + 31337) + 613 * (i : Int) + 29) (show (0 : Int) < 1000000007 by decide)
      refine ⟨_, rfl, .inl ⟨rfl, _, SqL.of e3⟩, ?_⟩
      refine ⟨_, rfl, _, rfl, _, _, rfl, rfl, (by show (0 : Int) < _; decide), by show 2 ≤ sizeLine; decide, fun b hb2 => ?_⟩
      have u1 := Int.emod_nonneg lf (show (1000000 : Int) ≠ 0 by decide)
      have u2 := Int.emod_lt_of_pos lf (show (0 : Int) < 1000000 by decide)
      show ∃ _, _
      have key : ∃ x : Int, 0 ≤ x ∧ x < 1000000007 ∧ atI [V.int ((st * (st % 32749 + 31337) + 613 * (i : Int) + 29) % 1000000007), V.int (lf % 1000000)] (if decide (0 < lf) = true then 1 else 0) = some (V.int x) := by
        by_cases z : 0 < lf
        · rw [decide_eq_true z]; exact ⟨_, u1, by omega, rfl⟩
        · rw [decide_eq_false z]; exact ⟨_, r1, r2, rfl⟩
      obtain ⟨x, x1, x2, hx⟩ := key
      have nLb : L ≠ b := ne_of_none e3 hb2
      have e4 := (Fr.new (xs := []) (o := .lst [V.int ((st * (st % 32749 + 31337) + 613 * (i : Int) + 29) % 1000000007), V.int (lf % 1000000)]) hb2).keep L _ (by simp) e3
      refine ⟨_, rfl, _, _, rfl, rfl, .inr ⟨_, rfl, b, _, _, _, rfl, rfl, SqL.of upd_same, hx, ?_⟩⟩
      refine ⟨L, _, _, rfl, rfl, e4, by rw [vL_length]; exact sz_lt (by omega), ?_⟩
      refine ⟨_, rfl, _, _, rfl, rfl, ⟨by decide, by decide⟩, ?_⟩
      refine ⟨f3.trans ((Fr.new hb2).trans (Fr.put1 e4 rfl)), _, _, _, zs ++ [x.toNat], rfl, r1, r2, by rw [List.length_append, hz]; rfl, by rw [upd_same, vL_snoc _ _ x1], fun z hz2 => ?_⟩
      rcases List.mem_append.mp hz2 with h | h
      · exact hb z h
      · rw [List.mem_singleton.mp h]; omega
    · rintro σ H3 ⟨f3, lf, st, z, zs, rfl, t1, t2, hz, e3, hb⟩
      exact ⟨_, rfl, q L H3 zs (by omega) hL0 ((F1.up.trans f3).drop1 hL0) e3 hb⟩
end
end NR

set_option maxRecDepth 100000
set_option maxHeartbeats 4000000
/-! The law's words and first columns. -/
namespace NR
open PySem PySem.Spec PyProof.Rows L2 NM
def isS : Key → Bool
  | .inl _ => false
  | .inr _ => true
def spFirst : Sp := fun vs H Q _ => ∃ kd y k a b : Nat, vs = [vI kd, vI y, vI k, vI a, vI b] ∧ kd < 6 ∧ y < 1000000007 ∧ k < 60 ∧ a < 1000000007 ∧ b < 1000000007 ∧ ∀ (key : Key) H', KeyOk key → isS key = decide (kd = 2) → Fr [] H H' → Q (kV key) H'
theorem letters_size : letters.cps.toList.length = 26 := by decide +kernel
theorem letter_at (i : Nat) (h : i < 26) : ∃ c, (Str.ofString "abcdefghijklmnopqrstuvwxyz").cps.toList[i]? = some c ∧ c ∈ letters.cps.toList := by
  have hl : i < letters.cps.toList.length := by rw [letters_size]; exact h
  exact ⟨_, List.getElem?_eq_getElem hl, List.getElem_mem hl⟩
theorem ab_at (i : Nat) (h : i < 2) : ∃ c, (Str.ofString "ab").cps.toList[i]? = some c ∧ c ∈ letters.cps.toList := by
  have hh : ∀ i, i < 2 → ∃ c ∈ letters.cps.toList, (Str.ofString "ab").cps.toList[i]? = some c := by decide +kernel
  obtain ⟨c, h1, h2⟩ := hh i h
  exact ⟨c, h2, h1⟩
theorem str_app (a b : Str) : (a ++ b).cps.toList = a.cps.toList ++ b.cps.toList := by
  rw [PySem.Str.cps_append, Array.toList_append]
theorem len_list (z : Str) : z.length = z.cps.toList.length := by
  show z.cps.size = _
  rw [Array.length_toList]
section
variable {P : Program} {w : World} {K : PySem.W.Frag} {mg : Str → Option Value} {base : Heap}
theorem sc_law_many : FnScope ["_law_x"] ["_law_x"] (defScope s_law_many) := ⟨rfl, rfl, rfl, by decide +kernel, rfl, by decide +kernel, by decide +kernel⟩
theorem ok_law_many (T : Hd K mg) : DOk P w K mg base 1 "_law_many" ["_law_x"] spLMany := by
  refine mkD T 63 39 rfl rfl sc_law_many (fun _ _ _ _ _ _ us hl => match us, hl with | [_], _ => rfl) (fun vs H Q E h => ?_) (fun cdv A outer s H vs Q E hr h => ?_)
  · obtain ⟨x, rfl, _⟩ := h; rfl
  · obtain ⟨x, rfl, q⟩ := h
    refine ⟨_, (pss_one (ps_ret (pe_ix ix_list (pe_lst (pa_cons (pe_op op_modNt (pe_op op_fdivNN (pv 0) pe_int) pe_int) (pa_cons (pe_op op_modNt (pe_op op_fdivNN (pv 0) pe_int) pe_int) pa_nil))) (pe_callTy call_int1 (by rfl) T.f_int (by decide +kernel) (pa_cons (pe_cmpR op_eq (pe_op op_modNt (pv 0) pe_int) pe_int (nomark _)) pa_nil)) (fun _ _ => rfl)))), ?_⟩
    refine ⟨_, rfl, x, 8, rfl, rfl, by decide, x / 8, 13, rfl, rfl, by decide, _, rfl, x, 8, rfl, rfl, by decide, x / 8, 61, rfl, rfl, by decide, by show 2 ≤ sizeLine; decide, fun a ha => ?_⟩
    have fa : Fr [] H (upd H a (.lst [vI (x / 8 % 13), vI (x / 8 % 61)])) := Fr.new ha
    have m1 := Nat.mod_lt (x / 8) (show 0 < 13 by decide)
    have m2 := Nat.mod_lt (x / 8) (show 0 < 61 by decide)
    refine ⟨_, rfl, x, 8, rfl, rfl, by decide, rfl, .inr ⟨_, rfl, ?_⟩⟩
    by_cases z : V.int ((x % 8 : Nat) : Int) = V.int 3
    · rw [decide_eq_true z]
      exact ⟨a, _, _, _, rfl, rfl, SqL.of upd_same, rfl, q _ _ (by omega) fa⟩
    · rw [decide_eq_false z]
      exact ⟨a, _, _, _, rfl, rfl, SqL.of upd_same, rfl, q _ _ (by omega) fa⟩
theorem sc_law_word : FnScope ["_law_x", "_law_y", "_law_number", "_law_word_here", "_law_k"] ["_law_x", "_law_y"] (defScope s_law_word) := ⟨rfl, rfl, rfl, by decide +kernel, rfl, by decide +kernel, by decide +kernel⟩
theorem ok_law_word (T : Hd K mg) : DOk P w K mg base 1 "_law_word" ["_law_x", "_law_y"] spWord := by
  refine mkD T 64 40 rfl rfl sc_law_word (fun _ _ _ _ _ _ us hl => match us, hl with | [_, _], _ => rfl) (fun vs H Q E h => ?_) (fun cdv A outer s H vs Q E hr h => ?_)
  · obtain ⟨x, y, rfl, _⟩ := h; rfl
  · obtain ⟨x, y, rfl, hx, hy, q⟩ := h
    refine ⟨_, (pss_cons (ps_set (i := 2) sc_law_word.nd rfl (Or.inl rfl) (pe_op op_addN (pe_op op_mulN (pv 0) pe_int) (pv 1)))
      (pss_cons (ps_set (i := 3) sc_law_word.nd rfl (Or.inl rfl) pe_str)
      (pss_cons (ps_for PassesOwn.never rfl (pi_range1 (by rfl) T.f_range (pa_cons (pe_op op_addN pe_int (pe_op op_modNt (pv 1) pe_int)) pa_nil)) (pg_name (i := 4) sc_law_word.nd rfl (Or.inl rfl))
        (pss_cons (ps_set (i := 3) sc_law_word.nd rfl (Or.inl rfl) (pe_op op_add_str (pv 3) (pe_ix ix_str pe_str (pe_op op_modNt (pv 2) pe_int) (fun _ _ => rfl))))
        (pss_one (ps_set (i := 2) sc_law_word.nd rfl (Or.inl rfl) (pe_op op_fdivNN (pv 2) pe_int)))))
      (pss_one (ps_ret (pv 3)))))), ?_⟩
    refine ⟨_, rfl, x, 1000003, rfl, rfl, by omega, _, rfl, x * 1000003, y, rfl, rfl, ?_⟩
    refine ⟨_, rfl, y, 8, rfl, rfl, by decide, 1, y % 8, rfl, rfl, ?_⟩
    have m8 := Nat.mod_lt y (show 0 < 8 by decide)
    refine ⟨((1 + y % 8 : Nat) : Int), rfl, by omega, by omega, ?_⟩
    refine for_it (walk_range0 (n := ((1 + y % 8 : Nat) : Int).toNat)) (fun i σ H' => H' = H ∧ ∃ (nb : Nat) (zz : Str) (z : Option V), σ = [some (vI x), some (vI y), some (vI nb), some (.str zz), z] ∧ zz.cps.toList.length = i ∧ ∀ c ∈ zz.cps.toList, c ∈ letters.cps.toList) ⟨rfl, x * 1000003 + y, "", none, rfl, by decide +kernel, fun c hc => ?_⟩ (fun _ _ _ _ _ => trivial) ?_ ?_
    · have : (Str.ofString "").cps.toList = [] := by decide +kernel
      rw [this] at hc
      cases hc
    · rintro i v σ H2 H3 hi ⟨rfl, nb, zz, z, rfl, hl, hc⟩ ⟨rfl, rfl⟩
      have hi : i < 1 + y % 8 := by omega
      obtain ⟨c, c1, c2⟩ := letter_at (nb % 26) (Nat.mod_lt _ (by decide))
      refine ⟨_, rfl, _, rfl, nb, 26, rfl, rfl, by decide, _, _, _, rfl, rfl, by decide +kernel, atI_nat c1, _, _, rfl, rfl, ?_, ?_⟩
      · rw [len_list, hl]
        exact sz_small (by show i + 1 ≤ 100000; omega)
      · refine ⟨_, rfl, nb, 26, rfl, rfl, by decide, rfl, nb / 26, _, _, rfl, ?_, ?_⟩
        · rw [str_app, List.length_append, hl]; rfl
        · rw [str_app]
          intro d hd
          rcases List.mem_append.mp hd with h | h
          · exact hc d h
          · rw [List.mem_singleton.mp h]; exact c2
    · rintro σ H2 ⟨rfl, nb, zz, z, rfl, hl, hc⟩
      refine ⟨_, rfl, q zz _ ⟨?_, ?_, hc⟩ (Fr.refl _ _)⟩
      · rw [len_list, hl]; omega
      · rw [len_list, hl]; omega
theorem sc_law_first : FnScope ["_law_kind", "_law_y", "_law_k", "_law_a", "_law_b", "_law_size", "_law_place"] ["_law_kind", "_law_y", "_law_k", "_law_a", "_law_b"] (defScope s_law_first) := ⟨rfl, rfl, rfl, by decide +kernel, rfl, by decide +kernel, by decide +kernel⟩
theorem ok_law_first (T : Hd K mg) : DOk P w K mg base 2 "_law_first" ["_law_kind", "_law_y", "_law_k", "_law_a", "_law_b"] spFirst := by
  refine mkD T 65 41 rfl rfl sc_law_first (fun _ _ _ _ _ _ us hl => match us, hl with | [_, _, _, _, _], _ => rfl) (fun vs H Q E h => ?_) (fun cdv A outer s H vs Q E hr h => ?_)
  · obtain ⟨kd, y, k, a, b, rfl, _⟩ := h; rfl
  · obtain ⟨kd, y, k, a, b, rfl, hkd, hy, hk, ha, hb, q⟩ := h
    refine ⟨_, (pss_cons (ps_if (pt_cmpR op_eq (pv 0) pe_int (nomark _))
        (pss_one (ps_ret (pe_op op_modNt (pv 3) pe_int)))
        pss_nil)
      (pss_cons (ps_if (pt_cmpR op_eq (pv 0) pe_int (nomark _))
        (pss_one (ps_ret (pe_op op_subI (pe_op op_modNt (pe_op op_addN (pe_op op_mulN (pv 3) pe_int) (pv 4)) pe_int) pe_int)))
        pss_nil)
      (pss_cons (ps_if (pt_cmpR op_eq (pv 0) pe_int (nomark _))
        (pss_one (ps_ret (pe_cd (ok_law_word T) (hr.mono (by decide)) (pa_cons (pv 3) (pa_cons (pv 4) pa_nil)))))
        pss_nil)
      (pss_cons (ps_if (pt_cmpR op_eq (pv 0) pe_int (nomark _))
        (pss_cons (ps_set (i := 5) sc_law_first.nd rfl (Or.inl rfl) (pe_op op_addN pe_int (pe_op op_modNt (pv 1) pe_int)))
        (pss_cons (ps_set (i := 6) sc_law_first.nd rfl (Or.inl rfl) (pe_op op_modNt (pv 2) (pv 5)))
        (pss_one (ps_ret (pe_op op_addN (pe_op op_mulN (pe_ix ix_list (pe_lst (pa_cons (pv 6) (pa_cons (pe_op op_subN (pv 5) (pv 6)) pa_nil))) (pe_op op_modNt (pe_op op_fdivNN (pe_op op_fdivNN (pv 1) pe_int) (pe_op op_addN (pe_op op_fdivNN (pv 2) (pv 5)) pe_int)) pe_int) (fun _ _ => rfl)) pe_int) (pe_op op_modNt (pv 3) pe_int))))))
        pss_nil)
      (pss_cons (ps_if (pt_cmpR op_eq (pv 0) pe_int (nomark _))
        (pss_one (ps_ret (pe_ix ix_list (pe_lst (pa_cons (pv 2) (pa_cons (pe_op op_modNt (pv 4) pe_int) pa_nil))) (pe_callTy call_int1 (by rfl) T.f_int (by decide +kernel) (pa_cons (pe_cmpR op_eq (pe_op op_modNt (pv 3) pe_int) pe_int (nomark _)) pa_nil)) (fun _ _ => rfl))))
        pss_nil)
      (pss_one (ps_ret (pe_op op_modNt (pe_op op_mulN (pv 2) (pe_op op_addN pe_int (pe_op op_modNt (pv 1) pe_int))) pe_int)))))))), ?_⟩
    have intok : ∀ (i : Int) (H' : Hp), -1000000000 < i → i < 1000000000 → kd ≠ 2 → Fr [] H H' → Q (.int i) H' := fun i H' h1 h2 h3 f => q (.inl i) H' ⟨h1, h2⟩ (by rw [decide_eq_false h3]; rfl) f
    have eqk : ∀ j : Nat, V.int (kd : Int) = V.int (j : Int) → kd = j := fun j h => by injection h with h; omega
    refine ⟨_, rfl, rfl, _, rfl, itD (fun z => ?_) (fun n0 => ?_)⟩
    · have z := eqk 0 z
      have := Nat.mod_lt a (show 0 < 4 by decide)
      exact ⟨_, rfl, a, 4, rfl, rfl, by decide, intok _ _ (by omega) (by omega) (by omega) (Fr.refl _ _)⟩
    refine ⟨_, rfl, rfl, _, rfl, itD (fun z => ?_) (fun n1 => ?_)⟩
    · have z := eqk 1 z
      have := Nat.mod_lt (a * 1000003 + b) (show 0 < 1999999999 by decide)
      exact ⟨_, rfl, a, 1000003, rfl, rfl, by omega, _, rfl, a * 1000003, b, rfl, rfl, a * 1000003 + b, 1999999999, rfl, rfl, by decide, _, _, rfl, rfl, intok _ _ (by omega) (by omega) (by omega) (Fr.refl _ _)⟩
    refine ⟨_, rfl, rfl, _, rfl, itD (fun z => ?_) (fun n2 => ?_)⟩
    · have z := eqk 2 z
      exact ⟨_, rfl, _, rfl, a, b, rfl, ha, hb, fun zz H' hz f => q (.inr zz) H' hz (by rw [decide_eq_true z]; rfl) f⟩
    have kn2 : kd ≠ 2 := fun z => n2 (by rw [z]; rfl)
    refine ⟨_, rfl, rfl, _, rfl, itD (fun z => ?_) (fun n3 => ?_)⟩
    · have m9 := Nat.mod_lt y (show 0 < 9 by decide)
      have mp := Nat.mod_lt k (show 0 < 2 + y % 9 by omega)
      refine ⟨_, rfl, y, 9, rfl, rfl, by decide, 2, y % 9, rfl, rfl, _, rfl, _, rfl, k, 2 + y % 9, rfl, rfl, by omega, ?_⟩
      refine ⟨_, rfl, _, rfl, _, rfl, 2 + y % 9, k % (2 + y % 9), rfl, rfl, by omega, by show 2 ≤ sizeLine; decide, fun c hc => ?_⟩
      have fc : Fr [] H (upd H c (.lst [vI (k % (2 + y % 9)), vI (2 + y % 9 - k % (2 + y % 9))])) := Fr.new hc
      refine ⟨_, rfl, y, 9, rfl, rfl, by decide, _, rfl, _, rfl, k, 2 + y % 9, rfl, rfl, by omega, k / (2 + y % 9), 1, rfl, rfl, y / 9, k / (2 + y % 9) + 1, rfl, rfl, ?_, y / 9 / (k / (2 + y % 9) + 1), 2, rfl, rfl, by decide, ?_⟩
      · exact ⟨Nat.le_add_left 1 _, Nat.lt_of_le_of_lt (Nat.add_le_add_right (Nat.div_le_self k (2 + y % 9)) 1) (by omega)⟩
      have m2 := Nat.mod_lt (y / 9 / (k / (2 + y % 9) + 1)) (show 0 < 2 by decide)
      have ma := Nat.mod_lt a (show 0 < 2 by decide)
      have hix : ∃ v : Nat, v ≤ 20 ∧ atI [vI (k % (2 + y % 9)), vI (2 + y % 9 - k % (2 + y % 9))] ((y / 9 / (k / (2 + y % 9) + 1) % 2 : Nat) : Int) = some (vI v) := by
        by_cases z1 : y / 9 / (k / (2 + y % 9) + 1) % 2 = 1
        · rw [z1]; exact ⟨_, by omega, rfl⟩
        · rw [show y / 9 / (k / (2 + y % 9) + 1) % 2 = 0 by omega]; exact ⟨_, by omega, rfl⟩
      obtain ⟨v, v1, v2⟩ := hix
      refine ⟨c, _, _, _, rfl, rfl, SqL.of upd_same, v2, v, 2, rfl, rfl, by omega, _, rfl, a, 2, rfl, rfl, by decide, v * 2, a % 2, rfl, rfl, ?_⟩
      exact intok _ _ (by omega) (by omega) kn2 fc
    refine ⟨_, rfl, rfl, _, rfl, itD (fun z => ?_) (fun n4 => ?_)⟩
    · have m60 := Nat.mod_lt b (show 0 < 60 by decide)
      refine ⟨_, rfl, _, rfl, b, 60, rfl, rfl, by decide, by show 2 ≤ sizeLine; decide, fun c hc => ?_⟩
      have fc : Fr [] H (upd H c (.lst [vI k, vI (b % 60)])) := Fr.new hc
      refine ⟨_, rfl, a, 6, rfl, rfl, by decide, rfl, .inr ⟨_, rfl, ?_⟩⟩
      by_cases z6 : V.int ((a % 6 : Nat) : Int) = V.int 0
      · rw [decide_eq_true z6]
        exact ⟨c, _, _, _, rfl, rfl, SqL.of upd_same, rfl, intok _ _ (by omega) (by omega) kn2 fc⟩
      · rw [decide_eq_false z6]
        exact ⟨c, _, _, _, rfl, rfl, SqL.of upd_same, rfl, intok _ _ (by omega) (by omega) kn2 fc⟩
    have m61 := Nat.mod_lt (k * (1 + y % 60)) (show 0 < 61 by decide)
    exact ⟨_, rfl, _, rfl, y, 60, rfl, rfl, by decide, 1, y % 60, rfl, rfl, k, 1 + y % 60, rfl, rfl, by omega, k * (1 + y % 60), 61, rfl, rfl, by decide, intok _ _ (by omega) (by omega) kn2 (Fr.refl _ _)⟩
end
end NR

set_option maxRecDepth 100000
set_option maxHeartbeats 4000000
/-! The law's rows. -/
namespace NR
open PySem PySem.Spec PyProof.Rows L2 NM
theorem sl_toG {K : PySem.W.Frag} {H : Hp} {a : Addr} {vs : List V} {i : Nat} {Q : VK} (h : H a = some (.tup vs)) (hi : i ≤ vs.length) (q : ∀ t H', Fr [] H H' → H' t = some (.tup (vs.take i)) → Q (.ref t) H') : rSlA K (.ref a) none (some (i : Int)) H Q := by
  refine ⟨a, _, rfl, SqT.of h, fun hw => ?_, fun _ p hp => ?_⟩
  · rw [HT.sIx_none, HT.sIx_nat, Nat.min_eq_left hi] at hw
    refine q a H (Fr.refl _ _) ?_
    rw [hw.2, List.take_length]; exact h
  · refine q p _ (Fr.new hp) ?_
    rw [upd_same, cut_to _ _ hi]
def kdF (kd : Nat) : Nat → Bool
  | 0 => decide (kd = 2)
  | 1 => false
  | _ => true
structure TOk (kd W : Nat) (t : Thing) : Prop where
  ok : ThingOk t
  len : t.length = W
  kind : ∀ c k, t[c]? = some k → isS k = kdF kd c
theorem full_ok {kd W : Nat} {key : Key} {u : Nat} {c : Nat} (hk : KeyOk key) (hs : isS key = decide (kd = 2)) (hu : u < 3) (hc : c ∈ letters.cps.toList) (h1 : 1 ≤ W) (h3 : W ≤ 3) : TOk kd W (([key, .inl (u : Int), .inr ⟨#[c]⟩] : List Key).take W) := by
  have k1 : KeyOk (.inl (u : Int)) := ⟨by omega, by omega⟩
  have k2 : KeyOk (.inr ⟨#[c]⟩) := ⟨Nat.le_refl 1, by show 1 ≤ 8; decide, fun d hd => by rw [List.mem_singleton.mp hd]; exact hc⟩
  have hl : (([key, .inl (u : Int), .inr ⟨#[c]⟩] : List Key).take W).length = W := by
    rw [List.length_take]
    show min W 3 = W
    omega
  refine ⟨⟨by rw [hl]; exact h1, by rw [hl]; omega, fun k hk2 => ?_⟩, hl, fun d k hd => ?_⟩
  · have := List.mem_of_mem_take hk2
    simp only [List.mem_cons, List.not_mem_nil, or_false] at this
    rcases this with rfl | rfl | rfl
    · exact hk
    · exact k1
    · exact k2
  · rw [List.getElem?_take] at hd
    by_cases z : d < W
    · rw [if_pos z] at hd
      have hd3 : d = 0 ∨ d = 1 ∨ d = 2 := by omega
      rcases hd3 with rfl | rfl | rfl
      · have := Option.some.inj hd; subst this; exact hs
      · have := Option.some.inj hd; subst this; rfl
      · have := Option.some.inj hd; subst this; rfl
    · rw [if_neg z] at hd; cases hd
def spThings : Sp := fun vs H Q _ => ∃ (xa : Addr) (xs : List Nat) (n : Nat), vs = [.ref xa, vI n] ∧ H xa = some (.lst (vL xs)) ∧ 4 + 2 * n ≤ xs.length ∧ 5 ≤ xs.length ∧ n ≤ 60 ∧ (∀ z ∈ xs, z < 1000000007) ∧
  ∀ (r : Addr) (H' : Hp) (rows : List Thing), rows.length = n → RowAt H' r rows → (∀ t ∈ rows, TOk (gv xs 0 % 6) (1 + gv xs 1 % 3) t) → Fr [] H H' → Q (.ref r) H'
section
variable {P : Program} {w : World} {K : PySem.W.Frag} {mg : Str → Option Value} {base : Heap}
theorem sc_law_things : FnScope ["_law_xs", "_law_many_here", "_law_row_here", "_law_k", "_law_a", "_law_b", "_law_thing"] ["_law_xs", "_law_many_here"] (defScope s_law_things) := ⟨rfl, rfl, rfl, by decide +kernel, rfl, by decide +kernel, by decide +kernel⟩
theorem ok_law_things (T : Hd K mg) : DOk P w K mg base 3 "_law_things" ["_law_xs", "_law_many_here"] spThings := by
  refine mkD T 66 42 rfl rfl sc_law_things (fun _ _ _ _ _ _ us hl => match us, hl with | [_, _], _ => rfl) (fun vs H Q E h => ?_) (fun cdv A outer s H vs Q E hr h => ?_)
  · obtain ⟨xa, xs, n, rfl, _⟩ := h; rfl
  · obtain ⟨xa, xs, n, rfl, hX, hl, h5, h60, hb, q⟩ := h
    refine ⟨_, (pss_cons (ps_set (i := 2) sc_law_things.nd rfl (Or.inl rfl) (pe_lst pa_nil))
      (pss_cons (ps_for PassesOwn.never rfl (pi_range1 (by rfl) T.f_range (pa_cons (pv 1) pa_nil)) (pg_name (i := 3) sc_law_things.nd rfl (Or.inl rfl))
        (pss_cons (ps_par (i := 4) (j := 5) (by rfl) sc_law_things.nd rfl rfl (by decide) rfl rfl (pa_cons (pe_ix ix_list (pv 0) (pe_op op_addN pe_int (pe_op op_mulN pe_int (pv 3))) (fun _ _ => rfl)) (pa_cons (pe_ix ix_list (pv 0) (pe_op op_addN pe_int (pe_op op_mulN pe_int (pv 3))) (fun _ _ => rfl)) pa_nil)) (by rfl))
        (pss_cons (ps_set (i := 6) sc_law_things.nd rfl (Or.inl rfl) (pe_tup (pa_cons (pe_cd (ok_law_first T) (hr.mono (by decide)) (pa_cons (pe_op op_modNt (pe_ix ix_list (pv 0) pe_int (fun _ _ => rfl)) pe_int) (pa_cons (pe_ix ix_list (pv 0) pe_int (fun _ _ => rfl)) (pa_cons (pv 3) (pa_cons (pv 4) (pa_cons (pv 5) pa_nil)))))) (pa_cons (pe_op op_modNt (pe_op op_fdivNN (pv 5) pe_int) pe_int) (pa_cons (pe_ix ix_str pe_str (pe_op op_modNt (pe_op op_fdivNN (pv 4) pe_int) pe_int) (fun _ _ => rfl)) pa_nil)))))
        (pss_one (ps_expr (pe_bm PySem.F.plainAttrs_list PySem.F.slot_list_append PySem.F.type_list_append mt_append (pv 2) (pa_cons (pe_slice sl_tupA (pv 6) po_none (po_some (pe_op op_addN pe_int (pe_op op_modNt (pe_ix ix_list (pv 0) pe_int (fun _ _ => rfl)) pe_int)))) pa_nil)))))))
      (pss_one (ps_ret (pe_callTy call_tuple_of (by rfl) T.f_tuple (by decide +kernel) (pa_cons (pv 2) pa_nil)))))), ?_⟩
    have hxb : ∀ i, i < xs.length → gv xs i < 1000000007 := fun i hi => gv_lt hb hi
    refine ⟨Nat.zero_le _, fun L hL => ?_⟩
    have fL : Fr [] H (upd H L (.lst [])) := Fr.new hL
    have eL : upd H L (.lst []) L = _ := upd_same
    have nXL : xa ≠ L := ne_of_none hX hL
    generalize upd H L (.lst []) = H1 at fL eL
    have hX1 := fL.keep xa _ (by simp) hX
    refine ⟨_, rfl, (n : Int), rfl, by omega, by omega, ?_⟩
    refine for_it (walk_range0 (n := ((n : Nat) : Int).toNat)) (fun i σ H' => Fr [L] H1 H' ∧ (∃ z3 z4 z5 z6, σ = [some (.ref xa), some (vI n), some (.ref L), z3, z4, z5, z6]) ∧ ∃ (vs : List V) (rows : List Thing), H' L = some (.lst vs) ∧ vs.length = i ∧ rows.length = i ∧ (∀ (j : Nat) (x : V) (t : Thing), vs[j]? = some x → rows[j]? = some t → ThAt H' x t) ∧ ∀ t ∈ rows, TOk (gv xs 0 % 6) (1 + gv xs 1 % 3) t) ⟨Fr.refl _ _, ⟨_, _, _, _, rfl⟩, [], [], eL, rfl, rfl, (fun j x t hx => by cases hx), (fun t ht => by cases ht)⟩ (fun _ _ _ _ _ => trivial) ?_ ?_
    · rintro i v σ H2 H3 hi ⟨f2, ⟨z3, z4, z5, z6, rfl⟩, vs, rows, e2, hv2, hr2, hth, hok⟩ ⟨rfl, rfl⟩
      have hi : i < n := by omega
      have hX2 := f2.keep xa _ (by simpa using nXL) hX1
      have g0 : (vL xs)[0]? = some (vI (gv xs 0)) := vL_get (by omega)
      have g1 : (vL xs)[1]? = some (vI (gv xs 1)) := vL_get (by omega)
      have g2 : (vL xs)[2]? = some (vI (gv xs 2)) := vL_get (by omega)
      have ga : (vL xs)[4 + 2 * i]? = some (vI (gv xs (4 + 2 * i))) := vL_get (by omega)
      have gb : (vL xs)[5 + 2 * i]? = some (vI (gv xs (5 + 2 * i))) := vL_get (by omega)
      have ba := hxb (4 + 2 * i) (by omega)
      have bb := hxb (5 + 2 * i) (by omega)
      have b2 := hxb 2 (by omega)
      generalize gv xs (4 + 2 * i) = a at ga ba
      generalize gv xs (5 + 2 * i) = b at gb bb
      refine ⟨_, rfl, _, rfl, 2, i, rfl, rfl, by decide, 4, 2 * i, rfl, rfl, xa, _, _, _, rfl, rfl, SqL.of hX2, atI_nat ga, ?_⟩
      refine ⟨_, rfl, _, rfl, 2, i, rfl, rfl, by decide, 5, 2 * i, rfl, rfl, xa, _, _, _, rfl, rfl, SqL.of hX2, atI_nat gb, ?_⟩
      refine ⟨_, _, rfl, ?_⟩
      refine ⟨_, rfl, xa, _, _, _, rfl, rfl, SqL.of hX2, atI_nat g0, gv xs 0, 6, rfl, rfl, by decide, _, rfl, xa, _, _, _, rfl, rfl, SqL.of hX2, atI_nat g2, _, rfl, _, rfl, _, rfl, ?_⟩
      have m6 := Nat.mod_lt (gv xs 0) (show 0 < 6 by decide)
      have m3 := Nat.mod_lt (gv xs 1) (show 0 < 3 by decide)
      have mu := Nat.mod_lt (b / 7) (show 0 < 3 by decide)
      refine ⟨gv xs 0 % 6, gv xs 2, i, a, b, rfl, m6, b2, by omega, ba, bb, fun key H9 hk hs f3 => ?_⟩
      obtain ⟨c, c1, c2⟩ := ab_at (a / 11 % 2) (Nat.mod_lt _ (by decide))
      refine ⟨_, rfl, b, 7, rfl, rfl, by decide, b / 7, 3, rfl, rfl, by decide, ?_⟩
      refine ⟨_, rfl, a, 11, rfl, rfl, by decide, a / 11, 2, rfl, rfl, by decide, _, _, _, rfl, rfl, by decide +kernel, atI_nat c1, by show 3 ≤ sizeLine; decide, fun th hth2 => ?_⟩
      have f4 := f3.trans (Fr.new (o := .tup [kV key, vI (b / 7 % 3), .str ⟨#[c]⟩]) hth2)
      have et : upd H9 th (.tup [kV key, vI (b / 7 % 3), .str ⟨#[c]⟩]) th = _ := upd_same
      generalize upd H9 th (.tup [kV key, vI (b / 7 % 3), .str ⟨#[c]⟩]) = H4 at f4 et
      have e4 := f4.keep L _ (by simp) e2
      have hX4 := f4.keep xa _ (by simp) hX2
      refine ⟨_, rfl, .inl ⟨rfl, _, SqL.of e4⟩, ?_⟩
      refine ⟨_, rfl, _, rfl, xa, _, _, _, rfl, rfl, SqL.of hX4, atI_nat g1, gv xs 1, 3, rfl, rfl, by decide, 1, gv xs 1 % 3, rfl, rfl, ((1 + gv xs 1 % 3 : Nat) : Int), rfl, ?_⟩
      refine sl_toG et (by show 1 + gv xs 1 % 3 ≤ 3; omega) (fun u H5 f5 e5 => ?_)
      have e6 := f5.keep L _ (by simp) e4
      have nLu : L ≠ u := ne_of e6 e5 (by intro z; cases z)
      refine ⟨L, vs, _, rfl, rfl, e6, sz_lt (by omega), ?_⟩
      have f6 : Fr [L] H3 (upd H5 L (.lst (vs ++ [.ref u]))) := (f4.trans f5).up.trans (Fr.put1 e6 rfl)
      have tok := full_ok (W := 1 + gv xs 1 % 3) hk hs mu c2 (by omega) (by omega)
      refine ⟨f2.trans f6, ⟨_, _, _, _, rfl⟩, _, rows ++ [([key, .inl ((b / 7 % 3 : Nat) : Int), .inr ⟨#[c]⟩] : List Key).take (1 + gv xs 1 % 3)], upd_same, by rw [List.length_append, hv2]; rfl, by rw [List.length_append, hr2]; rfl, fun j x t hx ht => ?_, fun t ht => ?_⟩
      · by_cases z : j < i
        · rw [List.getElem?_append_left (by omega)] at hx ht
          exact (hth j x t hx ht).keep f6
        · have hjl : j < (vs ++ [V.ref u]).length := (List.getElem?_eq_some_iff.mp hx).1
          have hj : j = i := by
            rw [List.length_append, hv2] at hjl
            have : j < i + 1 := hjl
            omega
          subst hj
          rw [List.getElem?_append_right (by omega), hv2, Nat.sub_self] at hx
          rw [List.getElem?_append_right (by omega), hr2, Nat.sub_self] at ht
          have hx := Option.some.inj hx
          have ht := Option.some.inj ht
          subst hx ht
          refine ⟨u, rfl, ?_⟩
          rw [upd_ne nLu.symm, e5, List.map_take]
          rfl
      · rcases List.mem_append.mp ht with h | h
        · exact hok t h
        · rw [List.mem_singleton.mp h]; exact tok
    · rintro σ H2 ⟨f2, ⟨z3, z4, z5, z6, rfl⟩, vs, rows, e2, hv2, hr2, hth, hok⟩
      rw [Int.toNat_natCast] at hv2 hr2
      refine ⟨_, rfl, L, _, rfl, .inl ⟨SqL.of e2, fun t ht => ?_⟩⟩
      have f3 := f2.trans (Fr.new (o := .tup vs) ht)
      exact q t _ rows hr2 ⟨vs, upd_same, by omega, fun j x tt hx htt => (hth j x tt hx htt).keep (Fr.new (xs := [L]) (o := .tup vs) ht)⟩ hok ((fL.up.trans f3).drop1 hL)
end
end NR

set_option maxRecDepth 100000
set_option maxHeartbeats 4000000
/-! Ranks from comparisons. -/
namespace NR
open PySem PySem.Spec PyProof.Rows L2 NM
def lk : Key → Key → Prop
  | .inl i, .inl j => i < j
  | .inr x, .inr y => x.cps.toList < y.cps.toList
  | _, _ => False
theorem str_eq {x y : Str} (h : x.cps.toList = y.cps.toList) : x = y := by
  cases x with
  | mk a =>
    cases y with
    | mk b =>
      have h : a.toList = b.toList := h
      rw [Array.toList_inj.mp h]
theorem lk_irr (k : Key) : ¬ lk k k := by
  cases k with
  | inl i => exact Int.lt_irrefl i
  | inr x => exact List.lt_irrefl x.cps.toList
theorem lk_trans {k l m : Key} (h1 : lk k l) (h2 : lk l m) : lk k m := by
  cases k with
  | inl i =>
    cases l with
    | inl j =>
      cases m with
      | inl p => exact Int.lt_trans h1 h2
      | inr z => exact h2
    | inr y => exact False.elim h1
  | inr x =>
    cases l with
    | inl j => exact False.elim h1
    | inr y =>
      cases m with
      | inl p => exact h2
      | inr z => exact List.lt_trans h1 h2
theorem lk_total {k l : Key} (h : isS k = isS l) (n : k ≠ l) : lk k l ∨ lk l k := by
  cases k with
  | inl i =>
    cases l with
    | inl j =>
      have : i ≠ j := fun e => n (by rw [e])
      rcases Int.lt_trichotomy i j with q | q | q
      · exact .inl q
      · exact absurd q this
      · exact .inr q
    | inr y => cases h
  | inr x =>
    cases l with
    | inl j => cases h
    | inr y =>
      by_cases q : x.cps.toList < y.cps.toList
      · exact .inl q
      · by_cases q2 : y.cps.toList < x.cps.toList
        · exact .inr q2
        · exact absurd (str_eq (List.le_antisymm (List.not_lt.mp q2) (List.not_lt.mp q))) fun e => n (by rw [e])
theorem ltK_iff {k l : Key} (h : isS k = isS l) (n : k ≠ l) (b : Bool) : ∃ lt, ltK k l = some lt ∧ (lt = b ↔ if b = true then lk k l else lk l k) := by
  have asym : ∀ {k l : Key}, lk k l → ¬ lk l k := fun h1 h2 => lk_irr _ (lk_trans h1 h2)
  have tot := lk_total h n
  have go : ∀ (d : Bool), (d = true ↔ lk k l) → (d = b ↔ if b = true then lk k l else lk l k) := fun d hd => by
    cases b with
    | true => rw [if_pos rfl]; exact hd
    | false =>
      rw [if_neg Bool.false_ne_true]
      constructor
      · intro e
        rcases tot with q | q
        · rw [hd.mpr q] at e; cases e
        · exact q
      · intro q
        cases d with
        | false => rfl
        | true => exact absurd q (asym (hd.mp rfl))
  cases k with
  | inl i =>
    cases l with
    | inl j => exact ⟨_, rfl, go _ decide_eq_true_iff⟩
    | inr y => cases h
  | inr x =>
    cases l with
    | inl j => cases h
    | inr y => exact ⟨_, rfl, go _ decide_eq_true_iff⟩
/-- one column, by its way -/
def lw (b : Bool) (k l : Key) : Prop := if b = true then lk k l else lk l k
theorem lw_irr (b : Bool) (k : Key) : ¬ lw b k k := by cases b <;> exact lk_irr k
theorem lw_trans {b : Bool} {k l m : Key} (h1 : lw b k l) (h2 : lw b l m) : lw b k m := by
  cases b
  · exact lk_trans h2 h1
  · exact lk_trans h1 h2
theorem lw_total {b : Bool} {k l : Key} (h : isS k = isS l) (n : k ≠ l) : lw b k l ∨ lw b l k := by
  cases b
  · exact (lk_total h n).symm
  · exact lk_total h n
/-- things of which each column of an order holds one kind -/
def Un (kd : Nat → Bool) (o : Order) (t : Thing) : Prop := ∀ p ∈ o, ∃ k, t[p.1 - 1]? = some k ∧ isS k = kd (p.1 - 1)
theorem cmp_eq {c : Nat} {b : Bool} {o : Order} {x y : Thing} {k : Key} (hx : x[c - 1]? = some k) (hy : y[c - 1]? = some k) : cmpT ((c, b) :: o) x y = cmpT o x y := by
  show (match x[c - 1]?, y[c - 1]? with
    | some k, some l => (match ltK k l with
      | none => none
      | some lt => if k = l then cmpT o x y else if lt = b then some (-1) else some 1)
    | _, _ => none) = _
  rw [hx, hy]
  cases k with
  | inl i => show (if (Sum.inl i : Key) = Sum.inl i then _ else _) = _; rw [if_pos rfl]
  | inr z => show (if (Sum.inr z : Key) = Sum.inr z then _ else _) = _; rw [if_pos rfl]
theorem cmp_ne {c : Nat} {b : Bool} {o : Order} {x y : Thing} {k l : Key} (hx : x[c - 1]? = some k) (hy : y[c - 1]? = some l) (hs : isS k = isS l) (n : k ≠ l) :
    (cmpT ((c, b) :: o) x y = some (-1) ∧ lw b k l) ∨ (cmpT ((c, b) :: o) x y = some 1 ∧ lw b l k) := by
  obtain ⟨lt, h1, h2⟩ := ltK_iff hs n b
  have e : cmpT ((c, b) :: o) x y = if lt = b then some (-1) else some 1 := by
    show (match x[c - 1]?, y[c - 1]? with
      | some k, some l => (match ltK k l with
        | none => none
        | some lt => if k = l then cmpT o x y else if lt = b then some (-1) else some 1)
      | _, _ => none) = _
    rw [hx, hy]
    show (match ltK k l with
        | none => none
        | some lt => if k = l then cmpT o x y else if lt = b then some (-1) else some 1) = _
    rw [h1]
    show (if k = l then cmpT o x y else if lt = b then some (-1) else some 1) = _
    rw [if_neg n]
  rw [e]
  by_cases q : lt = b
  · rw [if_pos q]; exact .inl ⟨rfl, h2.mp q⟩
  · rw [if_neg q]
    refine .inr ⟨rfl, ?_⟩
    rcases lw_total (b := b) hs n with t | t
    · exact absurd (h2.mpr t) q
    · exact t
theorem Un.tail {kd : Nat → Bool} {p : Nat × Bool} {o : Order} {t : Thing} (h : Un kd (p :: o) t) : Un kd o t := fun q hq => h q (List.mem_cons_of_mem _ hq)
theorem cmp_some {kd : Nat → Bool} : ∀ {o : Order} {x y : Thing}, Un kd o x → Un kd o y → ∃ r, cmpT o x y = some r
  | [], _, _, _, _ => ⟨0, rfl⟩
  | (c, b) :: o, x, y, hx, hy => by
    obtain ⟨k, k1, k2⟩ := hx (c, b) List.mem_cons_self
    obtain ⟨l, l1, l2⟩ := hy (c, b) List.mem_cons_self
    by_cases e : k = l
    · subst e
      rw [cmp_eq k1 l1]
      exact cmp_some hx.tail hy.tail
    · rcases cmp_ne (b := b) (o := o) k1 l1 (k2.trans l2.symm) e with ⟨h, _⟩ | ⟨h, _⟩ <;> exact ⟨_, h⟩
/-- the first column tells, or the rest -/
theorem cmp_lt {kd : Nat → Bool} {c : Nat} {b : Bool} {o : Order} {x y : Thing} {k l : Key} (hx : x[c - 1]? = some k) (hy : y[c - 1]? = some l) (hs : isS k = isS l) : cmpT ((c, b) :: o) x y = some (-1) ↔ (k = l ∧ cmpT o x y = some (-1)) ∨ lw b k l := by
  by_cases e : k = l
  · subst e
    rw [cmp_eq hx hy]
    exact ⟨fun h => .inl ⟨rfl, h⟩, fun h => h.elim (fun z => z.2) fun z => absurd z (lw_irr b k)⟩
  · rcases cmp_ne (b := b) (o := o) hx hy hs e with ⟨h, q⟩ | ⟨h, q⟩
    · rw [h]
      exact ⟨fun _ => .inr q, fun _ => rfl⟩
    · rw [h]
      refine ⟨(fun z => by cases z), fun z => ?_⟩
      rcases z with z | z
      · exact absurd z.1 e
      · exact absurd (lw_trans z q) (lw_irr b k)
theorem cmp_self {kd : Nat → Bool} : ∀ {o : Order} {x : Thing}, Un kd o x → cmpT o x x = some 0
  | [], _, _ => rfl
  | (c, b) :: o, x, hx => by
    obtain ⟨k, k1, k2⟩ := hx (c, b) List.mem_cons_self
    rw [cmp_eq k1 k1]
    exact cmp_self hx.tail
theorem cmp_trans {kd : Nat → Bool} : ∀ {o : Order} {x y z : Thing}, Un kd o x → Un kd o y → Un kd o z → cmpT o x y = some (-1) → cmpT o y z = some (-1) → cmpT o x z = some (-1)
  | [], _, _, _, _, _, _, h, _ => by cases h
  | (c, b) :: o, x, y, z, hx, hy, hz, h1, h2 => by
    obtain ⟨k, k1, k2⟩ := hx (c, b) List.mem_cons_self
    obtain ⟨l, l1, l2⟩ := hy (c, b) List.mem_cons_self
    obtain ⟨m, m1, m2⟩ := hz (c, b) List.mem_cons_self
    rw [cmp_lt (kd := kd) k1 l1 (k2.trans l2.symm)] at h1
    rw [cmp_lt (kd := kd) l1 m1 (l2.trans m2.symm)] at h2
    rw [cmp_lt (kd := kd) k1 m1 (k2.trans m2.symm)]
    rcases h1 with ⟨e1, q1⟩ | q1
    · subst e1
      rcases h2 with ⟨e2, q2⟩ | q2
      · exact .inl ⟨e2, cmp_trans hx.tail hy.tail hz.tail q1 q2⟩
      · exact .inr q2
    · rcases h2 with ⟨e2, q2⟩ | q2
      · subst e2; exact .inr q1
      · exact .inr (lw_trans q1 q2)
theorem cmp_neg {kd : Nat → Bool} : ∀ {o : Order} {x y z : Thing}, Un kd o x → Un kd o y → Un kd o z → cmpT o z y = some (-1) → cmpT o x y ≠ some (-1) → cmpT o z x = some (-1)
  | [], _, _, _, _, _, _, h, _ => by cases h
  | (c, b) :: o, x, y, z, hx, hy, hz, h1, h2 => by
    obtain ⟨k, k1, k2⟩ := hx (c, b) List.mem_cons_self
    obtain ⟨l, l1, l2⟩ := hy (c, b) List.mem_cons_self
    obtain ⟨m, m1, m2⟩ := hz (c, b) List.mem_cons_self
    rw [cmp_lt (kd := kd) m1 l1 (m2.trans l2.symm)] at h1
    rw [Ne, cmp_lt (kd := kd) k1 l1 (k2.trans l2.symm)] at h2
    rw [cmp_lt (kd := kd) m1 k1 (m2.trans k2.symm)]
    have hn : ¬ lw b k l := fun q => h2 (.inr q)
    have he : k = l → cmpT o x y ≠ some (-1) := fun e q => h2 (.inl ⟨e, q⟩)
    rcases h1 with ⟨e1, q1⟩ | q1
    · subst e1
      by_cases e : k = m
      · exact .inl ⟨e.symm, cmp_neg hx.tail hy.tail hz.tail q1 (he e)⟩
      · rcases lw_total (b := b) (k2.trans m2.symm) e with t | t
        · exact absurd t hn
        · exact .inr t
    · by_cases e : k = l
      · subst e; exact .inr q1
      · rcases lw_total (b := b) (k2.trans l2.symm) e with t | t
        · exact absurd t hn
        · exact .inr (lw_trans q1 t)
/-! ### ranks -/
theorem filter_le {α : Type} {p q : α → Bool} : ∀ {l : List α}, (∀ x ∈ l, p x = true → q x = true) → (l.filter p).length ≤ (l.filter q).length
  | [], _ => Nat.le_refl _
  | a :: l, h => by
    have ih := filter_le (l := l) fun x hx => h x (List.mem_cons_of_mem _ hx)
    rw [List.filter_cons, List.filter_cons]
    by_cases z : p a = true
    · rw [if_pos z, if_pos (h a List.mem_cons_self z)]
      exact Nat.succ_le_succ ih
    · rw [if_neg z]
      split
      · exact Nat.le_succ_of_le ih
      · exact ih
theorem filter_lt {α : Type} {p q : α → Bool} : ∀ {l : List α} {a : α}, (∀ x ∈ l, p x = true → q x = true) → a ∈ l → p a = false → q a = true → (l.filter p).length < (l.filter q).length
  | b :: l, a, h, ha, pa, qa => by
    rw [List.filter_cons, List.filter_cons]
    have hl := fun x hx => h x (List.mem_cons_of_mem b hx)
    rcases List.mem_cons.mp ha with e | e
    · subst e
      rw [if_neg (by rw [pa]; exact Bool.false_ne_true), if_pos qa]
      exact Nat.lt_succ_of_le (filter_le hl)
    · have ih := filter_lt hl e pa qa
      by_cases z : p b = true
      · rw [if_pos z, if_pos (h b List.mem_cons_self z)]
        exact Nat.succ_lt_succ ih
      · rw [if_neg z]
        split
        · exact Nat.lt_succ_of_lt ih
        · exact ih
def rkOf (o : Order) (rows : List Thing) (x : Nat) : Nat := ((List.range rows.length).filter fun y => decide (cmpT o (rows.getD y []) (rows.getD x []) = some (-1))).length
theorem rk_iff {kd : Nat → Bool} {o : Order} {rows : List Thing} (h : ∀ t ∈ rows, Un kd o t) {x y : Nat} (hx : x < rows.length) (hy : y < rows.length) : cmpT o (rows.getD x []) (rows.getD y []) = some (-1) ↔ rkOf o rows x < rkOf o rows y := by
  have un : ∀ i, i < rows.length → Un kd o (rows.getD i []) := fun i hi => h _ (by
    rw [List.getD_eq_getElem?_getD, List.getElem?_eq_getElem hi]
    exact List.getElem_mem hi)
  constructor
  · intro q
    refine filter_lt (a := x) (fun z hz hp => ?_) (List.mem_range.mpr hx) ?_ (decide_eq_true q)
    · have hz := List.mem_range.mp hz
      exact decide_eq_true (cmp_trans (un z hz) (un x hx) (un y hy) (of_decide_eq_true hp) q)
    · rw [cmp_self (un x hx)]; rfl
  · intro q
    by_cases e : cmpT o (rows.getD x []) (rows.getD y []) = some (-1)
    · exact e
    · exfalso
      have : rkOf o rows y ≤ rkOf o rows x := filter_le fun z hz hp => by
        have hz := List.mem_range.mp hz
        exact decide_eq_true (cmp_neg (un x hx) (un y hy) (un z hz) (of_decide_eq_true hp) e)
      omega
/-- the ranks are those of a row whose comparisons read as an order of uniform columns has them -/
theorem cmp_ok {kd : Nat → Bool} {o o' : Order} {rows : List Thing} (h60 : rows.length ≤ 60) (hc : ∀ p ∈ o, 1 ≤ p.1) (h : ∀ t ∈ rows, Un kd o' t) (he : ∀ (x y : Nat) (tx ty : Thing), x ≠ y → rows[x]? = some tx → rows[y]? = some ty → cmpT o tx ty = cmpT o' tx ty) :
    CmpOk rows.length rows o (rkOf o' rows) := by
  refine ⟨rfl, h60, hc, fun x y tx ty n hx hy => ?_⟩
  obtain ⟨r, hr⟩ := cmp_some (h tx (List.mem_of_getElem? hx)) (h ty (List.mem_of_getElem? hy))
  have lx := (List.getElem?_eq_some_iff.mp hx).1
  have ly := (List.getElem?_eq_some_iff.mp hy).1
  have ex : rows.getD x [] = tx := by rw [List.getD_eq_getElem?_getD, hx]; rfl
  have ey : rows.getD y [] = ty := by rw [List.getD_eq_getElem?_getD, hy]; rfl
  have k := rk_iff h lx ly
  rw [ex, ey, hr] at k
  refine ⟨r, (he x y tx ty n hx hy).trans hr, ?_⟩
  rw [← k]
  exact ⟨fun e => by rw [e], fun e => Option.some.inj e⟩
end NR

set_option maxRecDepth 100000
set_option maxHeartbeats 4000000
/-! The law's orders, rows. -/
namespace NR
open PySem PySem.Spec PyProof.Rows L2 NM
def colsB (W at_ : Nat) (r : Bool) : List Nat := if r = true then ((([1, 2, 3].take W ++ [1, 2, 3].take W).drop at_).take W).reverse else (([1, 2, 3].take W ++ [1, 2, 3].take W).drop at_).take W
def colsF (W at_ : Nat) (r : Bool) (cnt : Nat) : List Nat := (colsB W at_ r).take cnt
theorem cols_ok {W a cnt : Nat} (hW : W < 4) (h1 : 1 ≤ W) (ha : a < W) (r : Bool) (hc : cnt < 4) (c1 : 1 ≤ cnt) (cW : cnt ≤ W) : (colsF W a r cnt).Nodup ∧ (colsF W a r cnt).length = cnt ∧ ∀ c ∈ colsF W a r cnt, 1 ≤ c ∧ c ≤ W := by
  have eW : W = 1 ∨ W = 2 ∨ W = 3 := by omega
  have ea : a = 0 ∨ a = 1 ∨ a = 2 := by omega
  have ec : cnt = 1 ∨ cnt = 2 ∨ cnt = 3 := by omega
  rcases eW with rfl | rfl | rfl <;> rcases ea with rfl | rfl | rfl <;> rcases ec with rfl | rfl | rfl <;> cases r <;> first | omega | exact ⟨by decide, by decide, by decide⟩
theorem cut_mid (l : List Nat) (i j : Nat) (h : i ≤ j) (hj : j ≤ l.length) : cutV (vL l) (some (i : Int)) (some (j : Int)) = vL ((l.drop i).take (j - i)) := by
  unfold cutV
  rw [HT.sIx_nat, HT.sIx_nat, vL_length, Nat.min_eq_left hj, Nat.min_eq_left (Nat.le_trans h hj), vL_drop, vL_take]
theorem rep_two (l : List Nat) : (List.replicate (2 : Int).toNat (vL l)).flatten = vL (l ++ l) := by
  show (List.replicate 2 (vL l)).flatten = _
  rw [List.replicate_succ, List.replicate_succ, List.flatten_cons, List.flatten_cons, ← vL_append]
  show vL l ++ (vL l ++ []) = _
  rw [List.append_nil]
def spOrder : Sp := fun vs H Q _ => ∃ (ya : Addr) (ys : List Nat) (W : Nat), vs = [.ref ya, vI W] ∧ H ya = some (.lst (vL ys)) ∧ 6 ≤ ys.length ∧ 1 ≤ W ∧ W ≤ 3 ∧
  ∀ (o : Addr) (ord : Order) (H' : Hp), OrdOk ord → OrdAt H' o ord → (∀ p ∈ ord, 1 ≤ p.1 ∧ p.1 ≤ W) → Fr [] H H' → Q (.ref o) H'
section
variable {P : Program} {w : World} {K : PySem.W.Frag} {mg : Str → Option Value} {base : Heap}
theorem sc_law_order : FnScope ["_law_xs", "_law_wide", "_law_at", "_law_columns", "_law_k", "_law_column"] ["_law_xs", "_law_wide"] (defScope s_law_order) := ⟨rfl, rfl, rfl, by decide +kernel, rfl, by decide +kernel, by decide +kernel⟩
theorem ok_law_order (T : Hd K mg) : DOk P w K mg base 1 "_law_order" ["_law_xs", "_law_wide"] spOrder := by
  refine mkD T 67 43 rfl rfl sc_law_order (fun _ _ _ _ _ _ us hl => match us, hl with | [_, _], _ => rfl) (fun vs H Q E h => ?_) (fun cdv A outer s H vs Q E hr h => ?_)
  · obtain ⟨ya, ys, W, rfl, _⟩ := h; rfl
  · obtain ⟨ya, ys, W, rfl, hY, h6, h1, h3, q⟩ := h
    refine ⟨_, (pss_cons (ps_set (i := 2) sc_law_order.nd rfl (Or.inl rfl) (pe_op op_modNt (pe_ix ix_list (pv 0) pe_int (fun _ _ => rfl)) (pv 1)))
      (Evl.pss_cut (ps_set (i := 3) sc_law_order.nd rfl (Or.inl rfl) (pe_slice sl_list (pe_op op_rep (pe_slice sl_list (pe_lst (pa_cons pe_int (pa_cons pe_int (pa_cons pe_int pa_nil)))) po_none (po_some (pv 1))) pe_int) (po_some (pv 2)) (po_some (pe_op op_addN (pv 2) (pv 1)))))
      (Evl.pss_cut (ps_if (pt_cmpR op_eq (pe_op op_modNt (pe_ix ix_list (pv 0) pe_int (fun _ _ => rfl)) pe_int) pe_int (nomark _))
        (pss_one (ps_set (i := 3) sc_law_order.nd rfl (Or.inl rfl) (pe_revL (pv 3))))
        pss_nil)
      (pss_cons (ps_set (i := 3) sc_law_order.nd rfl (Or.inl rfl) (pe_slice sl_list (pv 3) po_none (po_some (pe_op op_addN pe_int (pe_op op_modNt (pe_ix ix_list (pv 0) pe_int (fun _ _ => rfl)) (pv 1))))))
      (pss_one (ps_ret (pe_callTy call_tuple_of (by rfl) T.f_tuple (by decide +kernel) (pa_cons (pe_lc (own := [("_law_k", 4), ("_law_column", 5)]) (g := gTup K 2 (gCons (gName 4) (gCons (gName 5) gNil))) (tt := tYes) rfl sc_law_order.nd (pi_enum (by rfl) T.f_enumerate (pa_cons (pv 3) pa_nil)) (blkOk_by (own := [("_law_k", 4), ("_law_column", 5)]) (N := ["_law_xs", "_law_wide", "_law_at", "_law_columns", "_law_k", "_law_column"]) (sc := defScope s_law_order) (by decide +kernel)) (fun _ _ _ _ _ => (pg_tup rfl (pgs_cons (pg_name (i := 4) sc_law_order.nd rfl (Or.inl rfl)) (pgs_cons (pg_name (i := 5) sc_law_order.nd rfl (Or.inl rfl)) pgs_nil)))) (fun _ _ _ _ _ => pts_nil) (fun _ _ _ _ _ => (pe_tup (pa_cons (pv 5) (pa_cons (pe_ix (ix_listK (K := K)) (pe_lst (pa_cons pe_str (pa_cons pe_str pa_nil))) (pe_op op_modNt (pe_ix (ix_listK (K := K)) (pv 0) (pe_op op_addN pe_int (pv 4)) (fun _ _ => rfl)) pe_int) (fun _ _ => rfl)) pa_nil))))) pa_nil)))))))), ?_⟩
    have g0 : (vL ys)[0]? = some (vI (gv ys 0)) := vL_get (by omega)
    have g1 : (vL ys)[1]? = some (vI (gv ys 1)) := vL_get (by omega)
    have g2 : (vL ys)[2]? = some (vI (gv ys 2)) := vL_get (by omega)
    refine ⟨_, rfl, ya, _, _, _, rfl, rfl, SqL.of hY, atI_nat g0, _, rfl, gv ys 0, W, rfl, rfl, by omega, ?_⟩
    have mat := Nat.mod_lt (gv ys 0) (show 0 < W by omega)
    generalize gv ys 0 % W = at_ at mat
    have lenT : ([1, 2, 3].take W).length = W := by rw [List.length_take]; show min W 3 = W; omega
    refine ⟨fun σ' H' => ∃ C : Addr, σ' = [some (.ref ya), some (vI W), some (vI at_), some (.ref C), none, none] ∧ Fr [] H H' ∧ H' C = some (.lst (vL ((([1, 2, 3].take W ++ [1, 2, 3].take W).drop at_).take W))), ?_, ?_⟩
    · refine ⟨by show 3 ≤ sizeLine; decide, fun a ha => ?_⟩
      have fa : Fr [] H (upd H a (.lst [V.int 1, V.int 2, V.int 3])) := Fr.new ha
      have ea : upd H a (.lst [V.int 1, V.int 2, V.int 3]) a = some (.lst (vL [1, 2, 3])) := upd_same
      refine ⟨_, rfl, (W : Int), rfl, a, _, rfl, SqL.of ea, fun b hb => ?_⟩
      have fb := fa.trans (Fr.new (o := .lst (cutV (vL [1, 2, 3]) none (some (W : Int)))) hb)
      have eb : upd (upd H a (.lst [V.int 1, V.int 2, V.int 3])) b (.lst (cutV (vL [1, 2, 3]) none (some (W : Int)))) b = some (.lst (vL ([1, 2, 3].take W))) := by
        rw [upd_same, cut_to _ _ (by show W ≤ 3; exact h3), vL_take]
      generalize upd (upd H a (.lst [V.int 1, V.int 2, V.int 3])) b (.lst (cutV (vL [1, 2, 3]) none (some (W : Int)))) = H1 at fb eb
      refine ⟨b, 2, _, rfl, rfl, eb, by decide, by decide, by rw [vL_length, lenT]; exact sz_small (by show W * 2 ≤ 100000; omega), fun c hc => ?_⟩
      have fc := fb.trans (Fr.new (o := .lst (List.replicate (2 : Int).toNat (vL ([1, 2, 3].take W))).flatten) hc)
      have ec : upd H1 c (.lst (List.replicate (2 : Int).toNat (vL ([1, 2, 3].take W))).flatten) c = some (.lst (vL ([1, 2, 3].take W ++ [1, 2, 3].take W))) := by rw [upd_same, rep_two]
      generalize upd H1 c (.lst (List.replicate (2 : Int).toNat (vL ([1, 2, 3].take W))).flatten) = H2 at fc ec
      refine ⟨_, rfl, (at_ : Int), rfl, _, rfl, _, rfl, at_, W, rfl, rfl, ((at_ + W : Nat) : Int), rfl, c, _, rfl, SqL.of ec, fun d hd => ?_⟩
      refine ⟨d, rfl, fc.trans (Fr.new hd), ?_⟩
      rw [upd_same, cut_mid _ _ _ (by omega) (by rw [List.length_append, lenT]; omega), Nat.add_sub_cancel_left]
    · rintro σ' H1 ⟨C, rfl, F1, eC⟩
      have hY1 := F1.keep ya _ (by simp) hY
      have lenC : ((([1, 2, 3].take W ++ [1, 2, 3].take W).drop at_).take W).length = W := by
        rw [List.length_take, List.length_drop, List.length_append, lenT]; omega
      refine ⟨fun σ' H' => ∃ (C : Addr) (r : Bool), σ' = [some (.ref ya), some (vI W), some (vI at_), some (.ref C), none, none] ∧ Fr [] H H' ∧ H' C = some (.lst (vL (colsB W at_ r))), ?_, ?_⟩
      · refine ⟨_, rfl, ya, _, _, _, rfl, rfl, SqL.of hY1, atI_nat g1, gv ys 1, 2, rfl, rfl, by decide, rfl, _, rfl, itD (fun _ => ?_) (fun _ => ?_)⟩
        · exact ⟨_, rfl, C, _, rfl, SqL.of eC, fun d hd => ⟨d, true, rfl, F1.trans (Fr.new hd), by rw [upd_same]; unfold colsB vL; rw [if_pos rfl, List.map_reverse]⟩⟩
        · exact ⟨C, false, rfl, F1, by unfold colsB; rw [if_neg Bool.false_ne_true]; exact eC⟩
      · rintro σ' H2 ⟨C2, r, rfl, F2, eC2⟩
        have hY2 := F2.keep ya _ (by simp) hY
        have mc := Nat.mod_lt (gv ys 2) (show 0 < W by omega)
        obtain ⟨c1, c2, c3⟩ := cols_ok (W := W) (a := at_) (cnt := 1 + gv ys 2 % W) (by omega) h1 mat r (by omega) (by omega) (by omega)
        have lenR : (colsB W at_ r).length = W := by
          unfold colsB
          split
          · rw [List.length_reverse]; exact lenC
          · exact lenC
        refine ⟨_, rfl, _, rfl, ya, _, _, _, rfl, rfl, SqL.of hY2, atI_nat g2, _, rfl, gv ys 2, W, rfl, rfl, by omega, 1, gv ys 2 % W, rfl, rfl, ((1 + gv ys 2 % W : Nat) : Int), rfl, C2, _, rfl, SqL.of eC2, fun E3 hE => ?_⟩
        rw [cut_to _ _ (by rw [vL_length, lenR]; omega), vL_take, show List.take (1 + gv ys 2 % W) (colsB W at_ r) = colsF W at_ r (1 + gv ys 2 % W) from rfl]
        generalize colsF W at_ r (1 + gv ys 2 % W) = cs at c1 c2 c3
        have f3 := F2.trans (Fr.new (o := .lst (vL cs)) hE)
        have e3 : upd H2 E3 (.lst (vL cs)) E3 = _ := upd_same
        generalize upd H2 E3 (.lst (vL cs)) = H3 at f3 e3
        refine ⟨_, rfl, E3, _, rfl, SqL.of e3, fun L hL => ?_⟩
        have nYL := ne_of_none (f3.keep ya _ (by simp) hY) hL
        have nEL := ne_of_none e3 hL
        refine lc_it (walk_enum (xs := vL cs)) (fun i H' => Fr [L] H3 H' ∧ ∃ (vs : List V) (ord : Order), H' L = some (.lst vs) ∧ vs.length = i ∧ ord.map (·.1) = cs.take i ∧ ∀ (j : Nat) (x : V) (p : Nat × Bool), vs[j]? = some x → ord[j]? = some p → PartAt H' x p) ⟨Fr.new hL, [], [], upd_same, rfl, rfl, (fun j x p hx => by cases hx)⟩ (fun _ _ _ p => SqL.of (p.1.keep E3 _ (by simpa using nEL) e3)) ?_ ?_
        · rintro i v H4 H5 hi ⟨f4, vs, ord, e4, hvl, hof, hpa⟩ ⟨T2, x', y', rfl, hT2, rfl, hx', hy'⟩
          have hx' := Option.some.inj hx'
          subst hx'
          obtain ⟨c, hc, rfl⟩ := map_get hy'
          rw [vL_length] at hi
          refine ⟨T2, _, rfl, SqT.of upd_same, rfl, _, _, rfl, _, _, rfl, rfl, rfl, ?_⟩
          have f5 : Fr [] H4 (upd H4 T2 (.tup [V.int ((i : Nat) : Int), vI c])) := Fr.new hT2
          generalize upd H4 T2 (.tup [V.int ((i : Nat) : Int), vI c]) = H5 at f5
          refine ⟨_, rfl, by show 2 ≤ sizeLine; decide, fun b hb => ?_⟩
          have f6 := f5.trans (Fr.new (o := .lst [V.str "up", V.str "down"]) hb)
          have eb : upd H5 b (.lst [V.str "up", V.str "down"]) b = _ := upd_same
          generalize upd H5 b (.lst [V.str "up", V.str "down"]) = H6 at f6 eb
          have hi3 : i < 3 := by omega
          have gi : (vL ys)[3 + i]? = some (vI (gv ys (3 + i))) := vL_get (by omega)
          have hY6 := f6.keep ya _ (by simp) (f4.keep ya _ (by simpa using nYL) (f3.keep ya _ (by simp) hY))
          have hix : atI [V.str "up", V.str "down"] ((gv ys (3 + i) % 2 : Nat) : Int) = some (.str (wayS (decide (gv ys (3 + i) % 2 = 0)))) := by
            have := Nat.mod_lt (gv ys (3 + i)) (show 0 < 2 by decide)
            by_cases z1 : gv ys (3 + i) % 2 = 0
            · rw [z1]; rfl
            · rw [decide_eq_false z1, show gv ys (3 + i) % 2 = 1 by omega]; rfl
          refine ⟨_, rfl, _, rfl, 3, i, rfl, rfl, ya, _, _, _, rfl, rfl, SqL.of hY6, atI_nat gi, gv ys (3 + i), 2, rfl, rfl, by decide, b, _, _, _, rfl, rfl, SqL.of eb, hix, by show 2 ≤ sizeLine; decide, fun t ht => ?_⟩
          have f7 := f6.trans (Fr.new (o := .tup [vI c, .str (wayS (decide (gv ys (3 + i) % 2 = 0)))]) ht)
          have et : upd H6 t (.tup [vI c, .str (wayS (decide (gv ys (3 + i) % 2 = 0)))]) t = _ := upd_same
          generalize upd H6 t (.tup [vI c, .str (wayS (decide (gv ys (3 + i) % 2 = 0)))]) = H7 at f7 et
          have e7 := f7.keep L _ (by simp) e4
          have nLt : L ≠ t := ne_of e7 et (by intro z; cases z)
          have f8 : Fr [L] H4 (upd H7 L (.lst (vs ++ [.ref t]))) := f7.up.trans (Fr.put1 e7 rfl)
          have hol : ord.length = i := by
            have := congrArg List.length hof
            rw [List.length_map, List.length_take] at this
            omega
          refine ⟨vs, e7, sz_lt (by omega), f4.trans f8, _, ord ++ [(c, decide (gv ys (3 + i) % 2 = 0))], upd_same, by rw [List.length_append, hvl]; rfl, ?_, fun j x p hx hp => ?_⟩
          · rw [List.map_append, hof, List.take_add_one, hc]; rfl
          · by_cases z : j < i
            · rw [List.getElem?_append_left (by omega)] at hx hp
              exact (hpa j x p hx hp).keep f8
            · have hjl := (List.getElem?_eq_some_iff.mp hx).1
              have hj : j = i := by
                rw [List.length_append, hvl] at hjl
                have : j < i + 1 := hjl
                omega
              subst hj
              rw [List.getElem?_append_right (by omega), hvl, Nat.sub_self] at hx
              rw [List.getElem?_append_right (by omega), hol, Nat.sub_self] at hp
              have hx := Option.some.inj hx
              have hp := Option.some.inj hp
              subst hx hp
              exact ⟨t, rfl, by rw [upd_ne nLt.symm]; exact et⟩
        · rintro H4 ⟨f4, vs, ord, e4, hvl, hof, hpa⟩
          rw [vL_length] at hvl hof
          rw [List.take_length] at hof
          have hol : ord.length = cs.length := by
            have := congrArg List.length hof
            rw [List.length_map] at this
            exact this
          refine ⟨L, _, rfl, .inl ⟨SqL.of e4, fun t ht => ?_⟩⟩
          have f5 := f4.trans (Fr.new (o := .tup vs) ht)
          have hcol : ∀ p ∈ ord, 1 ≤ p.1 ∧ p.1 ≤ W := fun p hp => c3 p.1 (by rw [← hof]; exact List.mem_map_of_mem hp)
          refine q t ord _ ⟨by omega, by omega, fun p hp => ?_, by rw [hof]; exact c1⟩ ⟨vs, upd_same, by omega, fun i x p hx hp => (hpa i x p hx hp).keep (Fr.new (xs := [L]) (o := .tup vs) ht)⟩ hcol ((f3.up.trans f5).drop1 (f3.none (by simp) hL))
          have := hcol p hp
          omega
end
end NR

set_option maxRecDepth 100000
set_option maxHeartbeats 4000000
/-! The law's rows with their orders. -/
namespace NR
open PySem PySem.Spec PyProof.Rows L2 NM
theorem cop61 : ∀ m, m < 61 → 1 ≤ m → Nat.Coprime 61 m := by decide +kernel
theorem mul61 {k j m : Nat} (hk : k < 61) (hj : j < 61) (hm : m < 61) (h1 : 1 ≤ m) (h : k * m % 61 = j * m % 61) : k = j := by
  have go : ∀ {k j : Nat}, k < 61 → j < 61 → k ≤ j → k * m % 61 = j * m % 61 → k = j := fun {k j} hk hj hle h => by
    have hd : 61 ∣ j * m - k * m := Nat.dvd_of_mod_eq_zero (Nat.sub_mod_eq_zero_of_mod_eq h.symm)
    rw [← Nat.sub_mul] at hd
    have hd := Nat.Coprime.dvd_of_dvd_mul_right (cop61 m hm h1) hd
    rcases Nat.eq_zero_or_pos (j - k) with z | z
    · omega
    · have := Nat.le_of_dvd z hd
      omega
  rcases Nat.le_total k j with q | q
  · exact go hk hj q h
  · exact (go hj hk q h.symm).symm
theorem cmp_first {c : Nat} {b : Bool} {o o' : Order} {x y : Thing} {k l : Key} (hx : x[c - 1]? = some k) (hy : y[c - 1]? = some l) (hs : isS k = isS l) (n : k ≠ l) : cmpT ((c, b) :: o) x y = cmpT ((c, b) :: o') x y := by
  rcases cmp_ne (b := b) (o := o) hx hy hs n with ⟨h1, q1⟩ | ⟨h1, q1⟩ <;> rcases cmp_ne (b := b) (o := o') hx hy hs n with ⟨h2, q2⟩ | ⟨h2, q2⟩
  · rw [h1, h2]
  · exact absurd (lw_trans q1 q2) (lw_irr b k)
  · exact absurd (lw_trans q1 q2) (lw_irr b l)
  · rw [h1, h2]
/-- a row of one column, its numbers unlike -/
def sRow (n m : Nat) : List Thing := (List.range n).map fun k => [.inl ((k * m % 61 : Nat) : Int)]
theorem sRow_get {n m i : Nat} {t : Thing} (h : (sRow n m)[i]? = some t) : i < n ∧ t = [.inl ((i * m % 61 : Nat) : Int)] := by
  unfold sRow at h
  rw [List.getElem?_map] at h
  by_cases z : i < n
  · rw [List.getElem?_range z] at h
    exact ⟨z, (Option.some.inj h).symm⟩
  · rw [List.getElem?_eq_none (by rw [List.length_range]; omega)] at h
    cases h
theorem sRow_ok {n m u : Nat} {b : Bool} (hn : n ≤ 60) (h1 : 1 ≤ m) (hm : m < 61) (hu : 2 ≤ u) : CmpOk n (sRow n m) [(1, b), (u, true)] (rkOf [(1, b)] (sRow n m)) ∧ ∀ t ∈ sRow n m, ThingOk t := by
  have hl : (sRow n m).length = n := by unfold sRow; rw [List.length_map, List.length_range]
  have hth : ∀ t ∈ sRow n m, ∃ v : Nat, v < 61 ∧ t = [.inl (v : Int)] := fun t ht => by
    obtain ⟨k, _, rfl⟩ := List.mem_map.mp ht
    exact ⟨_, Nat.mod_lt _ (by decide), rfl⟩
  refine ⟨?_, fun t ht => ?_⟩
  · have := cmp_ok (kd := fun _ => false) (o := [(1, b), (u, true)]) (o' := [(1, b)]) (rows := sRow n m) (by rw [hl]; exact hn) (fun p hp => ?_) (fun t ht p hp => ?_) fun x y tx ty nxy hx hy => ?_
    · rw [hl] at this; exact this
    · simp only [List.mem_cons, List.not_mem_nil, or_false] at hp
      rcases hp with rfl | rfl
      · exact Nat.le_refl 1
      · show 1 ≤ u
        omega
    · obtain ⟨v, _, rfl⟩ := hth t ht
      rw [List.mem_singleton.mp hp]
      exact ⟨_, rfl, rfl⟩
    · obtain ⟨lx, rfl⟩ := sRow_get hx
      obtain ⟨ly, rfl⟩ := sRow_get hy
      refine cmp_first (k := .inl ((x * m % 61 : Nat) : Int)) (l := .inl ((y * m % 61 : Nat) : Int)) rfl rfl rfl fun e => nxy ?_
      injection e with e
      exact mul61 (by omega) (by omega) hm h1 (by omega)
  · obtain ⟨v, hv, rfl⟩ := hth t ht
    refine ⟨Nat.le_refl 1, by show 1 ≤ 4; decide, fun k hk => ?_⟩
    rw [List.mem_singleton.mp hk]
    exact ⟨by omega, by omega⟩
/-- a row of uniform columns -/
theorem uRow_ok {kd W : Nat} {rows : List Thing} {ord : Order} (hn : rows.length ≤ 60) (h : ∀ t ∈ rows, TOk kd W t) (ho : ∀ p ∈ ord, 1 ≤ p.1 ∧ p.1 ≤ W) : CmpOk rows.length rows ord (rkOf ord rows) :=
  cmp_ok (kd := kdF kd) hn (fun p hp => (ho p hp).1) (fun t ht p hp => by
    have hp := ho p hp
    have ht := h t ht
    have hlt : p.1 - 1 < t.length := by rw [ht.len]; omega
    exact ⟨_, List.getElem?_eq_getElem hlt, ht.kind _ _ (List.getElem?_eq_getElem hlt)⟩) fun _ _ _ _ _ _ _ => rfl
def spRow : Sp := fun vs H Q _ => ∃ (xa ya : Addr) (xs ys : List Nat) (n : Nat), vs = [.ref xa, .ref ya, vI n] ∧ H xa = some (.lst (vL xs)) ∧ H ya = some (.lst (vL ys)) ∧ 4 + 2 * n ≤ xs.length ∧ 5 ≤ xs.length ∧ 6 ≤ ys.length ∧ n ≤ 60 ∧ (∀ z ∈ xs, z < 1000000007) ∧
  ∀ (t r o : Addr) (rows : List Thing) (ord : Order) (rk : Nat → Nat) (H' : Hp), H' t = some (.tup [.ref r, .ref o]) → RowAt H' r rows → OrdAt H' o ord → OrdOk ord → (∀ t ∈ rows, ThingOk t) → CmpOk n rows ord rk → Fr [] H H' → Q (.ref t) H'
section
variable {P : Program} {w : World} {K : PySem.W.Frag} {mg : Str → Option Value} {base : Heap}
theorem sc_law_row : FnScope ["_law_xs", "_law_ys", "_law_many_here", "_law_row_here", "_law_order_here", "_law_k"] ["_law_xs", "_law_ys", "_law_many_here"] (defScope s_law_row) := ⟨rfl, rfl, rfl, by decide +kernel, rfl, by decide +kernel, by decide +kernel⟩
theorem ok_law_row (T : Hd K mg) : DOk P w K mg base 4 "_law_row" ["_law_xs", "_law_ys", "_law_many_here"] spRow := by
  refine mkD T 68 44 rfl rfl sc_law_row (fun _ _ _ _ _ _ us hl => match us, hl with | [_, _, _], _ => rfl) (fun vs H Q E h => ?_) (fun cdv A outer s H vs Q E hr h => ?_)
  · obtain ⟨xa, ya, xs, ys, n, rfl, _⟩ := h; rfl
  · obtain ⟨xa, ya, xs, ys, n, rfl, hX, hY, hl, h5, h6, h60, hb, q⟩ := h
    refine ⟨_, (pss_cons (ps_set (i := 3) sc_law_row.nd rfl (Or.inl rfl) (pe_cd (ok_law_things T) (hr.mono (by decide)) (pa_cons (pv 0) (pa_cons (pv 2) pa_nil))))
      (pss_cons (ps_set (i := 4) sc_law_row.nd rfl (Or.inl rfl) (pe_cd (ok_law_order T) (hr.mono (by decide)) (pa_cons (pv 1) (pa_cons (pe_op op_addN pe_int (pe_op op_modNt (pe_ix ix_list (pv 0) pe_int (fun _ _ => rfl)) pe_int)) pa_nil))))
      (Evl.pss_cut (ps_if (pt_cmpR op_eq (pe_op op_modNt (pe_ix ix_list (pv 0) pe_int (fun _ _ => rfl)) pe_int) pe_int (nomark _))
        (pss_cons (ps_set (i := 3) sc_law_row.nd rfl (Or.inl rfl) (pe_callTy call_tuple_of (by rfl) T.f_tuple (by decide +kernel) (pa_cons (pe_lc (own := [("_law_k", 5)]) (g := gName 5) (tt := tYes) rfl sc_law_row.nd (pi_range1 (by rfl) T.f_range (pa_cons (pv 2) pa_nil)) (blkOk_by (own := [("_law_k", 5)]) (N := ["_law_xs", "_law_ys", "_law_many_here", "_law_row_here", "_law_order_here", "_law_k"]) (sc := defScope s_law_row) (by decide +kernel)) (fun _ _ _ _ _ => (pg_name (i := 5) sc_law_row.nd rfl (Or.inl rfl))) (fun _ _ _ _ _ => pts_nil) (fun _ _ _ _ _ => (pe_tup (pa_cons (pe_op op_modNt (pe_op op_mulN (pv 5) (pe_op op_addN pe_int (pe_op op_modNt (pe_ix (ix_listK (K := K)) (pv 0) pe_int (fun _ _ => rfl)) pe_int))) pe_int) pa_nil)))) pa_nil)))
        (pss_one (ps_set (i := 4) sc_law_row.nd rfl (Or.inl rfl) (pe_tup (pa_cons (pe_tup (pa_cons pe_int (pa_cons (pe_ix ix_tup (pe_ix ix_tup (pv 4) pe_int (fun _ _ => rfl)) pe_int (fun _ _ => rfl)) pa_nil))) (pa_cons (pe_tup (pa_cons (pe_op op_addN pe_int (pe_op op_modNt (pe_ix ix_list (pv 1) pe_int (fun _ _ => rfl)) pe_int)) (pa_cons pe_str pa_nil))) pa_nil))))))
        pss_nil)
      (pss_one (ps_ret (pe_tup (pa_cons (pv 3) (pa_cons (pv 4) pa_nil)))))))), ?_⟩
    have g1 : (vL xs)[1]? = some (vI (gv xs 1)) := vL_get (by omega)
    have g2 : (vL xs)[2]? = some (vI (gv xs 2)) := vL_get (by omega)
    have g3 : (vL xs)[3]? = some (vI (gv xs 3)) := vL_get (by omega)
    have y1 : (vL ys)[1]? = some (vI (gv ys 1)) := vL_get (by omega)
    have m3 := Nat.mod_lt (gv xs 1) (show 0 < 3 by decide)
    refine ⟨_, rfl, _, rfl, xa, xs, n, rfl, hX, hl, h5, h60, hb, fun r H1 rows hrl hr hok f1 => ?_⟩
    refine ⟨_, rfl, _, rfl, xa, _, _, _, rfl, rfl, SqL.of (f1.keep xa _ (by simp) hX), atI_nat g1, gv xs 1, 3, rfl, rfl, by decide, 1, gv xs 1 % 3, rfl, rfl, ya, ys, 1 + gv xs 1 % 3, rfl, f1.keep ya _ (by simp) hY, h6, by omega, by omega, fun o ord H2 hord ho hcol f2 => ?_⟩
    have F2 := f1.trans f2
    have hr2 := hr.keep f2
    refine ⟨fun σ' H' => ∃ (r o : Addr) (rows : List Thing) (ord : Order) (rk : Nat → Nat), σ' = [some (.ref xa), some (.ref ya), some (vI n), some (.ref r), some (.ref o), none] ∧ RowAt H' r rows ∧ OrdAt H' o ord ∧ OrdOk ord ∧ (∀ t ∈ rows, ThingOk t) ∧ CmpOk n rows ord rk ∧ Fr [] H H', ?_, ?_⟩
    · refine ⟨_, rfl, xa, _, _, _, rfl, rfl, SqL.of (F2.keep xa _ (by simp) hX), atI_nat g3, gv xs 3, 6, rfl, rfl, by decide, rfl, _, rfl, itD (fun _ => ?_) (fun _ => ?_)⟩
      · refine ⟨_, rfl, (n : Int), rfl, by omega, by omega, fun L hL => ?_⟩
        have hX2 := F2.keep xa _ (by simp) hX
        have nXL := ne_of_none hX2 hL
        have mm := Nat.mod_lt (gv xs 2) (show 0 < 60 by decide)
        refine lc_it (walk_range0 (n := ((n : Nat) : Int).toNat)) (fun i H' => Fr [L] H2 H' ∧ ∃ vs : List V, H' L = some (.lst vs) ∧ vs.length = i ∧ ∀ (j : Nat) (x : V), vs[j]? = some x → ThAt H' x [.inl ((j * (1 + gv xs 2 % 60) % 61 : Nat) : Int)]) ⟨Fr.new hL, [], upd_same, rfl, fun j x hx => by cases hx⟩ (fun _ _ _ _ => trivial) ?_ ?_
        · rintro i v H3 H4 hi ⟨f3, vs, e3, hvl, hth⟩ ⟨rfl, rfl⟩
          refine ⟨rfl, ?_⟩
          refine ⟨_, rfl, _, rfl, xa, _, _, _, rfl, rfl, SqL.of (f3.keep xa _ (by simpa using nXL) hX2), atI_nat g2, gv xs 2, 60, rfl, rfl, by decide, 1, gv xs 2 % 60, rfl, rfl, i, 1 + gv xs 2 % 60, rfl, rfl, by omega, i * (1 + gv xs 2 % 60), 61, rfl, rfl, by decide, by show 1 ≤ sizeLine; decide, fun t ht => ?_⟩
          have nLt := ne_of_none e3 ht
          have e4 := (Fr.new (xs := []) (o := .tup [vI (i * (1 + gv xs 2 % 60) % 61)]) ht).keep L _ (by simp) e3
          refine ⟨vs, e4, sz_lt (by omega), f3.trans ((Fr.new ht).trans (Fr.put1 e4 rfl)), _, upd_same, by rw [List.length_append, hvl]; rfl, fun j x hx => ?_⟩
          by_cases z : j < i
          · rw [List.getElem?_append_left (by omega)] at hx
            exact (hth j x hx).keep ((Fr.new (xs := [L]) (o := .tup [vI (i * (1 + gv xs 2 % 60) % 61)]) ht).trans (Fr.put1 e4 rfl))
          · have hjl := (List.getElem?_eq_some_iff.mp hx).1
            have hj : j = i := by
              rw [List.length_append, hvl] at hjl
              have : j < i + 1 := hjl
              omega
            subst hj
            rw [List.getElem?_append_right (by omega), hvl, Nat.sub_self] at hx
            have hx := Option.some.inj hx
            subst hx
            exact ⟨t, rfl, by rw [upd_ne nLt.symm, upd_same]; rfl⟩
        · rintro H3 ⟨f3, vs, e3, hvl, hth⟩
          rw [Int.toNat_natCast] at hvl
          refine ⟨L, _, rfl, .inl ⟨SqL.of e3, fun R hR => ?_⟩⟩
          have f4 := (f3.trans (Fr.new (o := .tup vs) hR)).drop1 hL
          have hsr : RowAt (upd H3 R (.tup vs)) R (sRow n (1 + gv xs 2 % 60)) := ⟨vs, upd_same, by unfold sRow; rw [List.length_map, List.length_range]; exact hvl, fun i x t hx ht => by
            obtain ⟨_, rfl⟩ := sRow_get ht
            exact (hth i x hx).keep (Fr.new (xs := [L]) (o := .tup vs) hR)⟩
          generalize upd H3 R (.tup vs) = H4 at f4 hsr
          have ho4 := ho.keep f4
          obtain ⟨ws, w1, w2, w3⟩ := id ho4
          have h1o := hord.l1
          obtain ⟨p0, hp0⟩ := get_ex (show 0 < ord.length by omega)
          obtain ⟨x0, hx0⟩ := get_ex (show 0 < ws.length by omega)
          obtain ⟨pa, rfl, hpa⟩ := w3 0 x0 p0 hx0 hp0
          refine ⟨_, rfl, o, _, _, _, rfl, rfl, SqT.of w1, atI_nat hx0, pa, _, _, _, rfl, rfl, SqT.of hpa, rfl, by show 2 ≤ sizeLine; decide, fun u1 hu1 => ?_⟩
          have f5 := f4.trans (Fr.new (o := .tup [vI 1, .str (wayS p0.2)]) hu1)
          have eu1 : upd H4 u1 (.tup [vI 1, .str (wayS p0.2)]) u1 = _ := upd_same
          have hs5 := hsr.keep (Fr.new (xs := []) (o := .tup [vI 1, .str (wayS p0.2)]) hu1)
          generalize upd H4 u1 (.tup [vI 1, .str (wayS p0.2)]) = H5 at f5 eu1 hs5
          have F5 := F2.trans f5
          refine ⟨_, rfl, ya, _, _, _, rfl, rfl, SqL.of (F5.keep ya _ (by simp) hY), atI_nat y1, gv ys 1, 3, rfl, rfl, by decide, 2, gv ys 1 % 3, rfl, rfl, by show 2 ≤ sizeLine; decide, fun u2 hu2 => ?_⟩
          have f6 := Fr.new (xs := []) (o := .tup [vI (2 + gv ys 1 % 3), .str "up"]) hu2
          have eu2 : upd H5 u2 (.tup [vI (2 + gv ys 1 % 3), .str "up"]) u2 = _ := upd_same
          have eu1' := f6.tup _ _ eu1
          have hs6 := hs5.keep f6
          generalize upd H5 u2 (.tup [vI (2 + gv ys 1 % 3), .str "up"]) = H6 at f6 eu2 eu1' hs6
          refine ⟨by show 2 ≤ sizeLine; decide, fun O hO => ?_⟩
          have f7 := Fr.new (xs := []) (o := .tup [.ref u1, .ref u2]) hO
          have my := Nat.mod_lt (gv ys 1) (show 0 < 3 by decide)
          obtain ⟨k1, k2⟩ := sRow_ok (n := n) (m := 1 + gv xs 2 % 60) (u := 2 + gv ys 1 % 3) (b := p0.2) h60 (by omega) (by omega) (by omega)
          refine ⟨R, O, _, [(1, p0.2), (2 + gv ys 1 % 3, true)], _, rfl, hs6.keep f7, ⟨_, upd_same, rfl, fun i x p hx hp => ?_⟩, ⟨by show 1 ≤ 2; decide, by show 2 ≤ 4; decide, fun p hp => ?_, ?_⟩, k2, k1, F5.trans (f6.trans f7)⟩
          · match i, hx, hp with
            | 0, hx, hp =>
              have hx := Option.some.inj hx
              have hp := Option.some.inj hp
              subst hx hp
              exact ⟨u1, rfl, f7.tup _ _ eu1'⟩
            | 1, hx, hp =>
              have hx := Option.some.inj hx
              have hp := Option.some.inj hp
              subst hx hp
              exact ⟨u2, rfl, f7.tup _ _ eu2⟩
          · simp only [List.mem_cons, List.not_mem_nil, or_false] at hp
            rcases hp with rfl | rfl
            · exact ⟨Nat.le_refl 1, by show 1 ≤ 4; decide⟩
            · show 1 ≤ 2 + gv ys 1 % 3 ∧ 2 + gv ys 1 % 3 ≤ 4
              omega
          · show ([1, 2 + gv ys 1 % 3] : List Nat).Nodup
            refine List.nodup_cons.mpr ⟨fun hm => ?_, List.nodup_cons.mpr ⟨(fun hm => by cases hm), List.nodup_nil⟩⟩
            have := List.mem_singleton.mp hm
            omega
      · have hc := uRow_ok (by rw [hrl]; exact h60) hok hcol
        rw [hrl] at hc
        exact ⟨r, o, rows, ord, _, rfl, hr2, ho, hord, fun t ht => (hok t ht).ok, hc, F2⟩
    · rintro σ' H3 ⟨r, o, rows, ord, rk, rfl, h1, h2, h3, h4, h5, F3⟩
      refine ⟨_, rfl, _, rfl, by show 2 ≤ sizeLine; decide, fun t ht => ?_⟩
      have f := Fr.new (xs := []) (o := .tup [.ref r, .ref o]) ht
      exact q t r o rows ord rk _ upd_same (h1.keep f) (h2.keep f) h3 h4 h5 (F3.trans f)
end
end NR

set_option maxRecDepth 100000
set_option maxHeartbeats 4000000
/-! The law's arrangement. -/
namespace NR
open PySem PySem.Spec PyProof.Rows L2 NM
def spHeld : Sp := fun vs H Q _ => ∃ (o : Addr) (ord : Order) (x y : V) (tx ty : Thing) (r : Int), vs = [.ref o, x, y] ∧ OrdAt H o ord ∧ ThAt H x tx ∧ ThAt H y ty ∧ (∀ p ∈ ord, 1 ≤ p.1) ∧ cmpT ord tx ty = some r ∧ ∀ H', Fr [] H H' → Q (.int r) H'
def spArranged : Sp := fun vs H Q _ => ∃ (r o : Addr) (n : Nat) (rk : Nat → Nat) (rows : List Thing) (ord : Order), vs = [.ref r, .ref o] ∧ RowAt H r rows ∧ OrdAt H o ord ∧ CmpOk n rows ord rk ∧ ∀ t H', Fr [] H H' → H' t = some (.tup (vL (arr rk n))) → Q (.ref t) H'
section
variable {P : Program} {w : World} {K : PySem.W.Frag} {mg : Str → Option Value} {base : Heap}
theorem sc_law_held : FnScope ["_law_order_here", "_law_x", "_law_y", "_law_column", "_law_way", "_law_one", "_law_other"] ["_law_order_here", "_law_x", "_law_y"] (defScope s_law_held) := ⟨rfl, rfl, rfl, by decide +kernel, rfl, by decide +kernel, by decide +kernel⟩
theorem ok_law_held (T : Hd K mg) : DOk P w K mg base 1 "_law_held" ["_law_order_here", "_law_x", "_law_y"] spHeld := by
  refine mkD T 69 45 rfl rfl sc_law_held (fun _ _ _ _ _ _ us hl => match us, hl with | [_, _, _], _ => rfl) (fun vs H Q E h => ?_) (fun cdv A outer s H vs Q E hr h => ?_)
  · obtain ⟨o, ord, x, y, tx, ty, r, rfl, _⟩ := h; rfl
  · obtain ⟨o, ord, x, y, tx, ty, r, rfl, ⟨xs, ho, hlen, hp⟩, ⟨ax, rfl, hx⟩, ⟨ay, rfl, hy⟩, hcol, hr, q⟩ := h
    refine ⟨_, (pss_cons (ps_for PassesOwn.never rfl (pi_tup (pv 0)) (pg_tup rfl (pgs_cons (pg_name (i := 3) sc_law_held.nd rfl (Or.inl rfl)) (pgs_cons (pg_name (i := 4) sc_law_held.nd rfl (Or.inl rfl)) pgs_nil)))
        (pss_cons (ps_if (PW.pt (pw_or (pt_cmpR op_lt (pe_callB call_len_seq (by rfl) T.f_len (by decide +kernel) (pa_cons (pv 1) pa_nil)) (pv 3) (nomark _)) (pw_or1 (pt_cmpR op_lt (pe_callB call_len_seq (by rfl) T.f_len (by decide +kernel) (pa_cons (pv 2) pa_nil)) (pv 3) (nomark _)))))
          (pss_one (ps_ret pe_non))
          pss_nil)
        (pss_cons (ps_par (i := 5) (j := 6) (by rfl) sc_law_held.nd rfl rfl (by decide) rfl rfl (pa_cons (pe_ix ix_tup (pv 1) (pe_op op_sub (pv 3) pe_int) (fun _ _ => rfl)) (pa_cons (pe_ix ix_tup (pv 2) (pe_op op_sub (pv 3) pe_int) (fun _ _ => rfl)) pa_nil)) (by rfl))
        (pss_cons (ps_if (pt_cmpR op_ne (pe_callB call_isi (by rfl) T.f_isinstance (by decide +kernel) (pa_cons (pv 5) (pa_cons (pe_bltn (v := .ty "str") rfl T.f_str (by decide +kernel) rfl) pa_nil))) (pe_callB call_isi (by rfl) T.f_isinstance (by decide +kernel) (pa_cons (pv 6) (pa_cons (pe_bltn (v := .ty "str") rfl T.f_str (by decide +kernel) rfl) pa_nil))) (nomark _))
          (pss_one (ps_ret pe_non))
          pss_nil)
        (pss_one (ps_if (pt_cmpR op_ne (pv 5) (pv 6) (nomark _))
          (pss_one (ps_ret (pe_ix ix_list (pe_lst (pa_cons pe_int (pa_cons (pe_un un_neg pe_int) pa_nil))) (pe_callTy call_int1 (by rfl) T.f_int (by decide +kernel) (pa_cons (pe_cmpR op_eq (pe_cmpR op_ltK (pv 5) (pv 6) (nomark _)) (pe_cmpR op_eq (pv 4) pe_str (nomark _)) (nomark _)) pa_nil)) (fun _ _ => rfl))))
          pss_nil))))))
      (pss_one (ps_ret pe_int))), ?_⟩
    refine ⟨_, rfl, o, rfl, ⟨_, SqT.of ho⟩, for_it (walk_tup (xs := xs)) (fun i σ H' => H' = H ∧ (∃ z1 z2 z3 z4, σ = [some (.ref o), some (.ref ax), some (.ref ay), z1, z2, z3, z4]) ∧ cmpT (ord.drop i) tx ty = some r) ⟨rfl, ⟨_, _, _, _, rfl⟩, hr⟩ (fun _ _ _ _ p => by rw [p.1]; exact SqT.of ho) ?_ ?_⟩
    · rintro i v σ H1 H2 hi ⟨rfl, ⟨z1, z2, z3, z4, rfl⟩, hc⟩ ⟨rfl, hv⟩
      obtain ⟨⟨c, wb⟩, hri⟩ := get_ex (show i < ord.length by omega)
      obtain ⟨b, rfl, hb⟩ := hp i v _ hv hri
      have h1 := hcol _ (List.mem_of_getElem? hri)
      rw [drop_of_get hri] at hc
      dsimp only at h1 hb
      obtain ⟨k, l, lt, hk, hl, hlt, hcase⟩ := cmpT_cons hc
      have lx := get_len hk
      have ly := get_len hl
      refine ⟨b, _, rfl, SqT.of hb, rfl, _, _, rfl, _, _, rfl, rfl, ?_⟩
      refine ⟨_, rfl, ax, _, rfl, .inr (SqT.of hx), _, rfl, _, _, rfl, rfl, _, rfl, itD (fun n => absurd n (by rw [List.length_map]; omega)) (fun _ => ?_)⟩
      refine ⟨_, rfl, ay, _, rfl, .inr (SqT.of hy), _, rfl, _, _, rfl, rfl, _, rfl, itD (fun n => absurd n (by rw [List.length_map]; omega)) (fun _ => ?_)⟩
      refine ⟨_, rfl, _, rfl, _, _, rfl, rfl, ax, _, _, _, rfl, rfl, SqT.of hx, th_at h1 hk, ?_⟩
      refine ⟨_, rfl, _, rfl, _, _, rfl, rfl, ay, _, _, _, rfl, rfl, SqT.of hy, th_at h1 hl, ?_⟩
      have hnext : k = l → cmpT (ord.drop (i + 1)) tx ty = some r := fun e => by
        rcases hcase with ⟨_, h⟩ | ⟨n, _⟩
        · exact h
        · exact absurd e n
      have hstop : k ≠ l → r = if lt = wb then -1 else 1 := fun n => by
        rcases hcase with ⟨e, _⟩ | ⟨_, h⟩
        · exact absurd e n
        · exact h
      refine ⟨_, _, rfl, ?_⟩
      rcases ltK_kinds hlt with ⟨u, v, rfl, rfl, elt⟩ | ⟨u, v, rfl, rfl, elt⟩
      · refine ⟨_, rfl, _, _, _, _, false, rfl, .ty "str", .base (.int u), kb_is, _, rfl, _, _, _, _, false, rfl, .ty "str", .base (.int v), kb_is, rfl, _, rfl, ?_⟩
        refine ⟨_, rfl, _, rfl, rfl, _, rfl, ?_⟩
        refine itN (fun n => ?_) (fun e => ?_)
        · have n' : (Sum.inl u : Key) ≠ Sum.inl v := fun z => n (by injection z with z; subst z; rfl)
          refine ⟨_, rfl, by show 2 ≤ sizeLine; decide, fun b2 hb2 => ?_⟩
          refine ⟨_, rfl, _, rfl, .inl ⟨_, _, rfl, rfl, _, rfl, rfl, rfl, .inr ⟨decide (lt = wb), congrArg (fun z => [z]) (bl_eq elt (way_up wb)), ?_⟩⟩⟩
          have fb := Fr.new (xs := []) (o := .lst [V.int 1, V.int (-1)]) hb2
          by_cases e : lt = wb
          · rw [decide_eq_true e]
            refine ⟨b2, _, _, _, rfl, rfl, SqL.of upd_same, rfl, ?_⟩
            have fin := q _ fb
            rw [hstop n', if_pos e] at fin
            exact fin
          · rw [decide_eq_false e]
            refine ⟨b2, _, _, _, rfl, rfl, SqL.of upd_same, rfl, ?_⟩
            have fin := q _ fb
            rw [hstop n', if_neg e] at fin
            exact fin
        · have e' : (Sum.inl u : Key) = Sum.inl v := by injection e with e; subst e; rfl
          exact ⟨rfl, ⟨_, _, _, _, rfl⟩, hnext e'⟩
      · refine ⟨_, rfl, _, _, _, _, true, rfl, .ty "str", .base (.str u), kb_ss, _, rfl, _, _, _, _, true, rfl, .ty "str", .base (.str v), kb_ss, rfl, _, rfl, ?_⟩
        refine ⟨_, rfl, _, rfl, rfl, _, rfl, ?_⟩
        refine itN (fun n => ?_) (fun e => ?_)
        · have n' : (Sum.inr u : Key) ≠ Sum.inr v := fun z => n (by injection z with z; subst z; rfl)
          refine ⟨_, rfl, by show 2 ≤ sizeLine; decide, fun b2 hb2 => ?_⟩
          refine ⟨_, rfl, _, rfl, .inr ⟨_, _, rfl, rfl, _, rfl, rfl, rfl, .inr ⟨decide (lt = wb), congrArg (fun z => [z]) (bl_eq elt (way_up wb)), ?_⟩⟩⟩
          have fb := Fr.new (xs := []) (o := .lst [V.int 1, V.int (-1)]) hb2
          by_cases e : lt = wb
          · rw [decide_eq_true e]
            refine ⟨b2, _, _, _, rfl, rfl, SqL.of upd_same, rfl, ?_⟩
            have fin := q _ fb
            rw [hstop n', if_pos e] at fin
            exact fin
          · rw [decide_eq_false e]
            refine ⟨b2, _, _, _, rfl, rfl, SqL.of upd_same, rfl, ?_⟩
            have fin := q _ fb
            rw [hstop n', if_neg e] at fin
            exact fin
        · have e' : (Sum.inr u : Key) = Sum.inr v := by injection e with e; subst e; rfl
          exact ⟨rfl, ⟨_, _, _, _, rfl⟩, hnext e'⟩
    · rintro σ H1 ⟨rfl, ⟨z1, z2, z3, z4, rfl⟩, hc⟩
      rw [hlen, List.drop_length] at hc
      have := Option.some.inj hc
      subst this
      exact q _ (Fr.refl _ _)
theorem sc_law_arranged : FnScope ["_law_row_here", "_law_order_here", "_law_line", "_law_k", "_law_at"] ["_law_row_here", "_law_order_here"] (defScope s_law_arranged) := ⟨rfl, rfl, rfl, by decide +kernel, rfl, by decide +kernel, by decide +kernel⟩
theorem ok_law_arranged (T : Hd K mg) : DOk P w K mg base 2 "_law_arranged" ["_law_row_here", "_law_order_here"] spArranged := by
  refine mkD T 70 46 rfl rfl sc_law_arranged (fun _ _ _ _ _ _ us hl => match us, hl with | [_, _], _ => rfl) (fun vs H Q E h => ?_) (fun cdv A outer s H vs Q E hr h => ?_)
  · obtain ⟨r, o, n, rk, rows, ord, rfl, _⟩ := h; rfl
  · obtain ⟨r, o, n, rk, rows, ord, rfl, hr0, ho, hc, q⟩ := h
    refine ⟨_, (pss_cons (ps_set (i := 2) sc_law_arranged.nd rfl (Or.inl rfl) (pe_lst pa_nil))
      (pss_cons (ps_for PassesOwn.never rfl (pi_range1 (by rfl) T.f_range (pa_cons (pe_callB call_len_seq (by rfl) T.f_len (by decide +kernel) (pa_cons (pv 0) pa_nil)) pa_nil)) (pg_name (i := 3) sc_law_arranged.nd rfl (Or.inl rfl))
        (pss_cons (ps_set (i := 4) sc_law_arranged.nd rfl (Or.inl rfl) (pe_callB call_len_seq (by rfl) T.f_len (by decide +kernel) (pa_cons (pv 2) pa_nil)))
        (Evl.pss_cut (ps_while PassesOwn.never (PW.pt (pw_and (pt_cmpR op_gt (pv 4) pe_int (nomark _)) (pw_and1 (pt_cmpR op_eq (pe_cd (ok_law_held T) (hr.mono (by decide)) (pa_cons (pv 1) (pa_cons (pe_ix ix_tup (pv 0) (pv 3) (fun _ _ => rfl)) (pa_cons (pe_ix ix_tup (pv 0) (pe_ix ix_list (pv 2) (pe_op op_subN (pv 4) pe_int) (fun _ _ => rfl)) (fun _ _ => rfl)) pa_nil)))) (pe_un un_neg pe_int) (nomark _)))))
          (pss_one (ps_set (i := 4) sc_law_arranged.nd rfl (Or.inl rfl) (pe_op op_subN (pv 4) pe_int))))
        (pss_one (ps_expr (pe_bm PySem.F.plainAttrs_list PySem.F.slot_list_insert PySem.F.type_list_insert mt_insert (pv 2) (pa_cons (pv 4) (pa_cons (pv 3) pa_nil))))))))
      (pss_one (ps_ret (pe_callTy call_tuple_of (by rfl) T.f_tuple (by decide +kernel) (pa_cons (pv 2) pa_nil)))))), ?_⟩
    have h60 := hc.n60
    obtain ⟨xs, hxs, hxl⟩ := row_len hr0
    have hxn : xs.length = n := by rw [hxl, hc.len]
    refine ⟨Nat.zero_le _, fun L hL => ?_⟩
    have fL : Fr [] H (upd H L (.lst [])) := Fr.new hL
    have eL : upd H L (.lst []) L = _ := upd_same
    generalize upd H L (.lst []) = H1 at fL eL
    refine ⟨_, rfl, r, xs, rfl, .inr (SqT.of (fL.tup _ _ hxs)), ?_⟩
    rw [hxn]
    refine ⟨(n : Int), rfl, by omega, by omega, ?_⟩
    refine for_it (walk_range0 (n := ((n : Nat) : Int).toNat)) (fun i σ H' => Fr [L] H1 H' ∧ (∃ z3 z4, σ = [some (.ref r), some (.ref o), some (.ref L), z3, z4]) ∧ H' L = some (.lst (vL (arr rk i)))) ⟨Fr.refl _ _, ⟨_, _, rfl⟩, eL⟩ (fun _ _ _ _ _ => trivial) ?_ ?_
    · rintro i v σ H2 H3 hi ⟨f2, ⟨z3, z4, rfl⟩, e2⟩ ⟨rfl, rfl⟩
      have hi : i < n := by omega
      have len := arr_length rk i
      have hlt : ∀ y ∈ arr rk i, y < i := fun y hy => arr_mem.mp hy
      refine ⟨_, rfl, L, _, rfl, .inl (SqL.of e2), ?_⟩
      rw [vL_length]
      refine ⟨fun σ' H' => ∃ at_ : Nat, at_ ≤ (arr rk i).length ∧ σ' = [some (.ref r), some (.ref o), some (.ref L), some (vI i), some (vI at_)] ∧ Fr [L] H1 H' ∧ H' L = some (.lst (vL (arr rk i))) ∧ at_ = (pp rk (arr rk i) i (arr rk i).length).1, ?_, ?_⟩
      · refine ⟨fun m σ' H' => ∃ k : Nat, m = k ∧ k ≤ (arr rk i).length ∧ σ' = [some (.ref r), some (.ref o), some (.ref L), some (vI i), some (vI k)] ∧ Fr [L] H1 H' ∧ H' L = some (.lst (vL (arr rk i))) ∧ (pp rk (arr rk i) i k).1 = (pp rk (arr rk i) i (arr rk i).length).1, ⟨_, _, rfl, Nat.le_refl _, rfl, f2, e2, rfl⟩, ?_⟩
        rintro m σ' H4 ⟨k, rfl, hk, rfl, f4, e4, g4⟩
        refine ⟨_, rfl, _, _, rfl, rfl, _, rfl, itD (fun gt => ?_) (fun ngt => ?_)⟩
        · obtain ⟨j, rfl⟩ : ∃ j, m = j + 1 := ⟨m - 1, by omega⟩
          have hj : j < (arr rk i).length := by omega
          have hr4 := hr0.keep (fL.up.trans f4)
          have ho4 := ho.keep (fL.up.trans f4)
          have hyi := hlt _ (getD_mem hj)
          obtain ⟨tx, htx⟩ := get_ex (show i < rows.length by rw [hc.len]; exact hi)
          obtain ⟨ty, hty⟩ := get_ex (show (arr rk i).getD j 0 < rows.length by rw [hc.len]; omega)
          obtain ⟨res, c1, c2⟩ := hc.cmp i _ tx ty (by omega) htx hty
          obtain ⟨ws, vx, w1, w2, w3⟩ := hr4.get htx
          obtain ⟨ws', vy, w1', w2', w3'⟩ := hr4.get hty
          rw [w1] at w1'
          injection w1' with w1'
          injection w1' with w1'
          subst w1'
          refine ⟨_, rfl, _, rfl, _, rfl, r, _, _, _, rfl, rfl, SqT.of w1, atI_nat w2, ?_⟩
          refine ⟨_, rfl, _, rfl, _, rfl, j + 1, 1, rfl, rfl, by omega, L, _, _, _, rfl, rfl, SqL.of e4, vL_at hj, r, _, _, _, rfl, rfl, SqT.of w1, atI_nat w2', ?_⟩
          refine ⟨o, ord, vx, vy, tx, ty, res, rfl, ho4, w3, w3', hc.col, c1, fun H5 f5 => ?_⟩
          refine ⟨_, rfl, rfl, _, rfl, itD (fun e => ?_) (fun ne => ?_)⟩
          · have e : res = -1 := by injection e
            have lt := c2.mp e
            have ep : pp rk (arr rk i) i (j + 1) = ((pp rk (arr rk i) i j).1, (pp rk (arr rk i) i j).2 + 1) := by
              conv => lhs; unfold pp
              rw [if_pos lt]
            rw [ep] at g4
            exact ⟨_, fun _ _ h => h, _, rfl, j + 1, 1, rfl, rfl, by omega, j, by omega, j, rfl, by omega, rfl, f4.trans f5.up, f5.keep L _ (by simp) e4, g4⟩
          · have nlt : ¬ rk i < rk ((arr rk i).getD j 0) := fun z => ne (by rw [c2.mpr z])
            have ep : pp rk (arr rk i) i (j + 1) = (j + 1, 1) := by
              conv => lhs; unfold pp
              rw [if_neg nlt]
            rw [ep] at g4
            exact ⟨j + 1, hk, rfl, f4.trans f5.up, f5.keep L _ (by simp) e4, g4⟩
        · have : m = 0 := by omega
          subst this
          exact ⟨0, hk, rfl, f4, e4, g4⟩
      · rintro σ' H4 ⟨at_, hat, rfl, f4, e4, rfl⟩
        refine ⟨_, rfl, .inl ⟨rfl, _, SqL.of e4⟩, _, rfl, _, rfl, L, _, _, _, rfl, rfl, e4, by rw [vL_length]; exact sz_lt (by omega), by omega, by omega, ?_⟩
        rw [vL_ins]
        exact ⟨f4.trans (Fr.put1 e4 rfl), ⟨_, _, rfl⟩, upd_same⟩
    · rintro σ H2 ⟨f2, ⟨z3, z4, rfl⟩, e2⟩
      rw [Int.toNat_natCast] at e2
      refine ⟨_, rfl, L, _, rfl, .inl ⟨SqL.of e2, fun t ht => ?_⟩⟩
      exact q t _ ((fL.up.trans (f2.trans (Fr.new ht))).drop1 hL) upd_same
end
end NR

set_option maxRecDepth 100000
set_option maxHeartbeats 4000000
/-! The law's each way; the law. -/
namespace NR
open PySem PySem.Spec PyProof.Rows L2 NM
/-- a pair of numbers, as it stands -/
def kH (H : Hp) (x : V) : Int × Int :=
  match x with
  | .ref t => (match H t with
    | some (.tup [.int a, .int b]) => (a, b)
    | _ => (0, 0))
  | _ => (0, 0)
theorem kH_is {H : Hp} {t : Addr} {a b : Int} (h : H t = some (.tup [.int a, .int b])) : kH H (.ref t) = (a, b) := by
  show (match H t with
    | some (.tup [.int a, .int b]) => (a, b)
    | _ => (0, 0)) = _
  rw [h]
theorem turn_is {H : Hp} {vs ys : List V} {zs : List Nat} (h : ∀ (j : Nat) (x : V), vs[j]? = some x → ∃ t, x = .ref t ∧ H t = some (.tup [vI (gv zs j), vI j])) (p : ys.Perm vs) : (ys.map fun y => (kH H y).2.toNat).Perm (List.range vs.length) := by
  have e : vs.map (fun y => (kH H y).2.toNat) = List.range vs.length := by
    refine List.ext_getElem? fun j => ?_
    rw [List.getElem?_map]
    by_cases z : j < vs.length
    · obtain ⟨x, hx⟩ := get_ex z
      obtain ⟨t, rfl, ht⟩ := h j x hx
      rw [hx, List.getElem?_range z]
      show some ((kH H (.ref t)).2.toNat) = _
      rw [kH_is ht]
      rfl
    · rw [List.getElem?_eq_none (by omega), List.getElem?_eq_none (by rw [List.length_range]; omega)]
      rfl
  rw [← e]
  exact p.map _
def spRight : Sp := fun vs H Q _ => ∃ (r o xa za : Addr) (n : Nat) (rk : Nat → Nat) (rows : List Thing) (ord : Order) (xs zs : List Nat), vs = [.ref r, .ref o, .ref xa, .ref za] ∧ RowAt H r rows ∧ OrdAt H o ord ∧ OrdOk ord ∧ (∀ t ∈ rows, ThingOk t) ∧ CmpOk n rows ord rk ∧ H xa = some (.lst (vL xs)) ∧ 13 ≤ xs.length ∧ xs.length ≤ 1000 ∧ H za = some (.lst (vL zs)) ∧ n ≤ zs.length ∧ ∀ H', Fr [] H H' → Q (.bl true) H'
def spLaw (K : PySem.W.Frag) : Sp := fun vs H Q _ => ∃ (s : Addr) (ns : List Int), vs = [.ref s] ∧ SqL K H s (ns.map V.int) ∧ ∀ H', Q (.bl true) H'
section
variable {P : Program} {w : World} {K : PySem.W.Frag} {mg : Str → Option Value} {base : Heap}
theorem sc_law_right : FnScope ["_law_row_here", "_law_order_here", "_law_xs", "_law_zs", "_law_many_here", "_law_arrangement", "_law_fill", "_law_turn", "_law_x", "_law_key", "_law_at"] ["_law_row_here", "_law_order_here", "_law_xs", "_law_zs"] (defScope s_law_right) := ⟨rfl, rfl, rfl, by decide +kernel, rfl, by decide +kernel, by decide +kernel⟩
theorem ok_law_right (T : Hd K mg) : DOk P w K mg base 18 "_law_right" ["_law_row_here", "_law_order_here", "_law_xs", "_law_zs"] spRight := by
  refine mkD T 82 58 rfl rfl sc_law_right (fun _ _ _ _ _ _ us hl => match us, hl with | [_, _, _, _], _ => rfl) (fun vs H Q E h => ?_) (fun cdv A outer s H vs Q E hr h => ?_)
  · obtain ⟨r, o, xa, za, n, rk, rows, ord, xs, zs, rfl, _⟩ := h; rfl
  · obtain ⟨r, o, xa, za, n, rk, rows, ord, xs, zs, rfl, hr0, ho, hord, hth, hc, hX, h13, hxl, hZ, hzl, q⟩ := h
    refine ⟨_, (pss_cons (ps_set (i := 4) sc_law_right.nd rfl (Or.inl rfl) (pe_callB call_len_seq (by rfl) T.f_len (by decide +kernel) (pa_cons (pv 0) pa_nil)))
      (pss_cons (ps_set (i := 5) sc_law_right.nd rfl (Or.inl rfl) (pe_cd (ok_law_arranged T) (hr.mono (by decide)) (pa_cons (pv 0) (pa_cons (pv 1) pa_nil))))
      (Evl.pss_cut (ps_set (i := 6) sc_law_right.nd rfl (Or.inl rfl) (pe_ix ix_list (pe_lst (pa_cons (pe_op op_addN pe_int (pe_op op_modNt (pe_ix ix_list (pv 2) pe_int (fun _ _ => rfl)) pe_int)) (pa_cons (pe_op op_addN pe_int (pe_op op_modNt (pe_op op_fdivNN (pe_ix ix_list (pv 2) pe_int (fun _ _ => rfl)) pe_int) pe_int)) pa_nil))) (pe_op op_modNt (pe_ix ix_list (pv 2) pe_int (fun _ _ => rfl)) pe_int) (fun _ _ => rfl)))
      (Evl.pss_cut (ps_setLc (i := 7) (own := [("_law_key", 9), ("_law_x", 8)]) (g := gTup K 2 (gCons (gName 9) (gCons (gName 8) gNil))) (tt := tYes) rfl sc_law_right.nd rfl rfl (sw_true rfl rfl rfl (by decide +kernel)) (pi_list (pe_callB cr_sortedPO (by rfl) T.f_sorted (by decide +kernel) (pa_cons (pe_lc (own := [("_law_x", 8)]) (g := gName 8) (tt := tYes) rfl sc_law_right.nd (pi_range1 (by rfl) T.f_range (pa_cons (pv 4) pa_nil)) (blkOk_by (own := [("_law_x", 8)]) (N := ["_law_row_here", "_law_order_here", "_law_xs", "_law_zs", "_law_many_here", "_law_arrangement", "_law_fill", "_law_turn", "_law_x", "_law_key", "_law_at"]) (sc := defScope s_law_right) (by decide +kernel)) (fun _ _ _ _ _ => (pg_name (i := 8) sc_law_right.nd rfl (Or.inl rfl))) (fun _ _ _ _ _ => pts_nil) (fun _ _ _ _ _ => (pe_tup (pa_cons (pe_ix (ix_listK (K := K)) (pv 3) (pv 8) (fun _ _ => rfl)) (pa_cons (pv 8) pa_nil))))) pa_nil))) (blkOk_by (own := [("_law_key", 9), ("_law_x", 8)]) (N := ["_law_row_here", "_law_order_here", "_law_xs", "_law_zs", "_law_many_here", "_law_arrangement", "_law_fill", "_law_turn", "_law_x", "_law_key", "_law_at"]) (sc := defScope s_law_right) (by decide +kernel)) (fun _ _ _ _ _ => (pg_tup rfl (pgs_cons (pg_name (i := 9) sc_law_right.nd rfl (Or.inl rfl)) (pgs_cons (pg_name (i := 8) sc_law_right.nd rfl (Or.inl rfl)) pgs_nil)))) (fun _ _ _ _ _ => pts_nil) (fun _ _ _ _ _ => (pv 8)))
      (pss_cons (ps_if (pt_not (pt_val (pe_cd (ok_law_put_ways T) (hr.mono (by decide)) (pa_cons (pv 0) (pa_cons (pv 1) (pa_cons (pv 5) pa_nil))))))
        (pss_one (ps_ret pe_bl))
        pss_nil)
      (pss_cons (ps_if (pt_not (pt_val (pe_cd (ok_law_runs_way T) (hr.mono (by decide)) (pa_cons (pv 0) (pa_cons (pv 1) (pa_cons (pv 5) (pa_cons (pv 6) (pa_cons (pe_ix ix_list (pe_lst (pa_cons pe_str (pa_cons pe_str pa_nil))) (pe_op op_modNt (pe_ix ix_list (pv 2) pe_int (fun _ _ => rfl)) pe_int) (fun _ _ => rfl)) pa_nil))))))))
        (pss_one (ps_ret pe_bl))
        pss_nil)
      (pss_cons (ps_if (PW.pt (pw_or (pt_not (pt_val (pe_cd (ok_law_lines_way T) (hr.mono (by decide)) (pa_cons (pv 0) (pa_cons (pv 1) (pa_cons (pv 5) (pa_cons (pe_slice sl_list (pv 2) (po_some pe_int) po_none) pa_nil))))))) (pw_or1 (pt_not (pt_val (pe_cd (ok_law_first_way T) (hr.mono (by decide)) (pa_cons (pv 0) (pa_cons (pv 1) (pa_cons (pv 5) (pa_cons (pe_slice sl_list (pv 2) (po_some pe_int) po_none) pa_nil))))))))))
        (pss_one (ps_ret pe_bl))
        pss_nil)
      (pss_cons (ps_set (i := 10) sc_law_right.nd rfl (Or.inl rfl) (pe_ix ix_list (pe_lst (pa_cons pe_int (pa_cons (pv 4) (pa_cons (pe_op op_modNt (pe_ix ix_list (pv 2) pe_int (fun _ _ => rfl)) (pe_op op_addN (pv 4) pe_int)) pa_nil)))) (pe_op op_modNt (pe_ix ix_list (pv 2) pe_int (fun _ _ => rfl)) pe_int) (fun _ _ => rfl)))
      (pss_one (ps_ret (pe_and (pe_cd (ok_law_heap_way T) (hr.mono (by decide)) (pa_cons (pv 0) (pa_cons (pv 1) (pa_cons (pv 5) (pa_cons (pv 7) (pa_cons (pv 10) pa_nil)))))) (pe_one (pe_cd (ok_law_kept_way T) (hr.mono (by decide)) (pa_cons (pv 0) (pa_cons (pv 1) (pa_cons (pv 5) (pa_cons (pv 7) pa_nil))))))))))))))))), ?_⟩
    have h60 := hc.n60
    obtain ⟨ws, hws, hwl⟩ := row_len hr0
    have hwn : ws.length = n := by rw [hwl, hc.len]
    have gx : ∀ i, i < 13 → (vL xs)[i]? = some (vI (gv xs i)) := fun i hi => vL_get (by omega)
    refine ⟨_, rfl, r, ws, rfl, .inr (SqT.of hws), ?_⟩
    rw [hwn]
    refine ⟨_, rfl, _, rfl, r, o, n, rk, rows, ord, rfl, hr0, ho, hc, fun a H1 f1 e1 => ?_⟩
    have hX1 := f1.keep xa _ (by simp) hX
    refine ⟨fun σ' H' => ∃ fl : Nat, 1 ≤ fl ∧ fl ≤ 64 ∧ σ' = [some (.ref r), some (.ref o), some (.ref xa), some (.ref za), some (vI n), some (.ref a), some (vI fl), none, none, none, none] ∧ Fr [] H1 H', ?_, ?_⟩
    · refine ⟨_, rfl, xa, _, _, _, rfl, rfl, SqL.of hX1, atI_nat (gx 0 (by decide)), gv xs 0, 64, rfl, rfl, by decide, 1, gv xs 0 % 64, rfl, rfl, _, rfl, xa, _, _, _, rfl, rfl, SqL.of hX1, atI_nat (gx 0 (by decide)), gv xs 0, 64, rfl, rfl, by decide, gv xs 0 / 64, 8, rfl, rfl, by decide, 1, gv xs 0 / 64 % 8, rfl, rfl, by show 2 ≤ sizeLine; decide, fun c hc2 => ?_⟩
      have fc := Fr.new (xs := []) (o := .lst [vI (1 + gv xs 0 % 64), vI (1 + gv xs 0 / 64 % 8)]) hc2
      have ec : upd H1 c (.lst [vI (1 + gv xs 0 % 64), vI (1 + gv xs 0 / 64 % 8)]) c = _ := upd_same
      generalize upd H1 c (.lst [vI (1 + gv xs 0 % 64), vI (1 + gv xs 0 / 64 % 8)]) = H2 at fc ec
      have m1 := Nat.mod_lt (gv xs 0) (show 0 < 64 by decide)
      have m2 := Nat.mod_lt (gv xs 0 / 64) (show 0 < 8 by decide)
      have hix : ∃ fl : Nat, 1 ≤ fl ∧ fl ≤ 64 ∧ atI [vI (1 + gv xs 0 % 64), vI (1 + gv xs 0 / 64 % 8)] ((gv xs 1 % 2 : Nat) : Int) = some (vI fl) := by
        have := Nat.mod_lt (gv xs 1) (show 0 < 2 by decide)
        by_cases z1 : gv xs 1 % 2 = 1
        · rw [z1]; exact ⟨_, by omega, by omega, rfl⟩
        · rw [show gv xs 1 % 2 = 0 by omega]; exact ⟨_, by omega, by omega, rfl⟩
      obtain ⟨fl, l1, l2, l3⟩ := hix
      exact ⟨_, rfl, xa, _, _, _, rfl, rfl, SqL.of (fc.keep xa _ (by simp) hX1), atI_nat (gx 1 (by decide)), gv xs 1, 2, rfl, rfl, by decide, c, _, _, _, rfl, rfl, SqL.of ec, l3, fl, l1, l2, rfl, fc⟩
    · rintro σ' H2 ⟨fl, l1, l2, rfl, f2⟩
      have F2 := f1.trans f2
      refine ⟨fun σ' H' => ∃ (U : Addr) (tn : List Nat), σ' = [some (.ref r), some (.ref o), some (.ref xa), some (.ref za), some (vI n), some (.ref a), some (vI fl), some (.ref U), none, none, none] ∧ Fr [] H2 H' ∧ H' U = some (.lst (vL tn)) ∧ tn.Perm (List.range n), ?_, ?_⟩
      · have hZ2 := F2.keep za _ (by simp) hZ
        refine ⟨_, rfl, (n : Int), rfl, by omega, by omega, fun L hL => ?_⟩
        have nZL := ne_of_none hZ2 hL
        refine lc_it (walk_range0 (n := ((n : Nat) : Int).toNat)) (fun i H' => Fr [L] H2 H' ∧ ∃ vs : List V, H' L = some (.lst vs) ∧ vs.length = i ∧ ∀ (j : Nat) (x : V), vs[j]? = some x → ∃ t, x = .ref t ∧ H' t = some (.tup [vI (gv zs j), vI j])) ⟨Fr.new hL, [], upd_same, rfl, fun j x hx => by cases hx⟩ (fun _ _ _ _ => trivial) ?_ ?_
        · rintro i v H3 H4 hi ⟨f3, vs, e3, hvl, hpr⟩ ⟨rfl, rfl⟩
          refine ⟨rfl, ?_⟩
          refine ⟨_, rfl, _, rfl, za, _, _, _, rfl, rfl, SqL.of (f3.keep za _ (by simpa using nZL) hZ2), vL_at (by omega), _, rfl, by show 2 ≤ sizeLine; decide, fun t ht => ?_⟩
          have nLt := ne_of_none e3 ht
          have e4 := (Fr.new (xs := []) (o := .tup [vI (gv zs i), vI i]) ht).keep L _ (by simp) e3
          have f5 := (Fr.new (xs := [L]) (o := .tup [vI (gv zs i), vI i]) ht).trans (Fr.put1 (o := .lst (vs ++ [.ref t])) e4 rfl)
          refine ⟨vs, e4, sz_lt (by omega), f3.trans f5, _, upd_same, by rw [List.length_append, hvl]; rfl, fun j x hx => ?_⟩
          by_cases z : j < i
          · rw [List.getElem?_append_left (by omega)] at hx
            obtain ⟨u, rfl, hu⟩ := hpr j x hx
            exact ⟨u, rfl, f5.tup _ _ hu⟩
          · have hjl := (List.getElem?_eq_some_iff.mp hx).1
            have hj : j = i := by
              rw [List.length_append, hvl] at hjl
              have : j < i + 1 := hjl
              omega
            subst hj
            rw [List.getElem?_append_right (by omega), hvl, Nat.sub_self] at hx
            have hx := Option.some.inj hx
            subst hx
            exact ⟨t, rfl, by rw [upd_ne nLt.symm, upd_same]; rfl⟩
        · rintro H3 ⟨f3, vs, e3, hvl, hpr⟩
          rw [Int.toNat_natCast] at hvl
          have f3' := f3.drop1 hL
          refine ⟨L, vs, kH H3, rfl, SqL.of e3, fun x hx => ?_, fun ys p hs hst hp => ?_⟩
          · obtain ⟨j, hj⟩ := List.mem_iff_getElem?.mp hx
            obtain ⟨t, rfl, ht⟩ := hpr j x hj
            exact ⟨t, rfl, by rw [kH_is ht]; exact ht⟩
          · have fp := Fr.new (xs := []) (o := .lst ys) hp
            have ep : upd H3 p (.lst ys) p = _ := upd_same
            have hall : ∀ y ∈ ys, ∃ (t : Addr) (j : Nat), y = .ref t ∧ H3 t = some (.tup [vI (gv zs j), vI j]) := fun y hy => by
              obtain ⟨j, hj⟩ := List.mem_iff_getElem?.mp (hst.perm.subset hy)
              obtain ⟨t, rfl, ht⟩ := hpr j y hj
              exact ⟨t, j, rfl, ht⟩
            have htn := turn_is hpr hst.perm
            rw [hvl] at htn
            refine ⟨p, rfl, ⟨_, SqL.of ep⟩, fun C hC => ?_⟩
            have nCp : p ≠ C := ne_of_none ep hC
            refine lc_it (walk_list (xs := ys)) (fun i H' => Fr [C] (upd H3 p (.lst ys)) H' ∧ H' C = some (.lst (vL ((ys.take i).map fun y => (kH H3 y).2.toNat)))) ⟨Fr.new hC, upd_same⟩ (fun _ _ _ z => SqL.of (z.1.keep p _ (by simpa using nCp) ep)) ?_ ?_
            · rintro i v H4 H5 hi ⟨f4, e4⟩ ⟨rfl, hx⟩
              obtain ⟨t, j, rfl, ht⟩ := hall v (List.mem_of_getElem? hx)
              have ht4 := f4.tup _ _ (fp.tup _ _ ht)
              refine ⟨t, _, rfl, SqT.of ht4, rfl, _, _, rfl, _, _, rfl, rfl, rfl, ?_⟩
              have hyl : ys.length = n := by rw [hst.perm.length_eq]; exact hvl
              refine ⟨_, rfl, _, e4, by rw [vL_length, List.length_map, List.length_take]; exact sz_lt (by omega), f4.trans (Fr.put1 e4 rfl), ?_⟩
              rw [upd_same, List.take_add_one, hx, List.map_append, ← vL_append]
              show some (HO.lst (_ ++ [vI j])) = some (HO.lst (_ ++ vL [(kH H3 (.ref t)).2.toNat]))
              rw [kH_is ht]
              rfl
            · rintro H4 ⟨f4, e4⟩
              rw [List.take_length] at e4
              exact ⟨C, _, rfl, f3'.trans ((fp.up.trans f4).drop1 (fp.none (by simp) hC)), e4, htn⟩
      · rintro σ' H3 ⟨U, tn, rfl, f3, eU, htn⟩
        have F3 := F2.trans f3
        have e3 := f3.tup _ _ (f2.tup _ _ e1)
        obtain ⟨g, hgd⟩ : ∃ g : G, g = ⟨r, o, a, n, rk, rows, ord⟩ := ⟨_, rfl⟩
        have hg : GOk g H3 := by rw [hgd]; exact ⟨hr0.keep F3, ho.keep F3, e3, hc, hord, hth⟩
        have gr : g.r = r := by rw [hgd]
        have go : g.o = o := by rw [hgd]
        have ga : g.a = a := by rw [hgd]
        have gn : g.n = n := by rw [hgd]
        refine ⟨_, rfl, _, rfl, _, rfl, g, [], by rw [gr, go, ga]; rfl, rfl, hg, fun H4 f4 => ⟨true, rfl, ?_⟩⟩
        have hg4 := hg.keep f4
        have F4 := F3.trans f4
        have hX4 := F4.keep xa _ (by simp) hX
        refine ⟨_, rfl, _, rfl, _, rfl, _, rfl, by show 2 ≤ sizeLine; decide, fun c hc2 => ?_⟩
        have fc := Fr.new (xs := []) (o := .lst [V.str "plain", V.str "leaps"]) hc2
        have ec : upd H4 c (.lst [V.str "plain", V.str "leaps"]) c = _ := upd_same
        have hX5 := fc.keep xa _ (by simp) hX4
        have hg5 := hg4.keep fc
        have F5 := F4.trans fc
        generalize upd H4 c (.lst [V.str "plain", V.str "leaps"]) = H5 at fc ec hX5 hg5 F5
        obtain ⟨m, hm⟩ : ∃ m, m = decide (gv xs 2 % 2 = 1) := ⟨_, rfl⟩
        have hix : atI [V.str "plain", V.str "leaps"] ((gv xs 2 % 2 : Nat) : Int) = some (.str (manS m)) := by
          have := Nat.mod_lt (gv xs 2) (show 0 < 2 by decide)
          rw [hm]
          by_cases z1 : gv xs 2 % 2 = 1
          · rw [z1]; rfl
          · rw [decide_eq_false z1, show gv xs 2 % 2 = 0 by omega]; rfl
        refine ⟨_, rfl, xa, _, _, _, rfl, rfl, SqL.of hX5, atI_nat (gx 2 (by decide)), gv xs 2, 2, rfl, rfl, by decide, c, _, _, _, rfl, rfl, SqL.of ec, hix, ?_⟩
        refine ⟨g, [vI fl, .str (manS m)], by rw [gr, go, ga]; rfl, ⟨fl, m, rfl, l1, l2⟩, hg5, fun H6 f6 => ⟨true, rfl, ?_⟩⟩
        have hg6 := hg5.keep f6
        have F6 := F5.trans f6
        refine ⟨_, rfl, _, rfl, _, rfl, _, rfl, (3 : Int), rfl, xa, _, rfl, SqL.of (F6.keep xa _ (by simp) hX), fun D hD => ?_⟩
        rw [show (3 : Int) = ((3 : Nat) : Int) from rfl, cut_from _ _ (by rw [vL_length]; omega), vL_drop]
        have fD := Fr.new (xs := []) (o := .lst (vL (xs.drop 3))) hD
        have eD : upd H6 D (.lst (vL (xs.drop 3))) D = _ := upd_same
        have hg7 := hg6.keep fD
        have F7 := F6.trans fD
        generalize upd H6 D (.lst (vL (xs.drop 3))) = H7 at fD eD hg7 F7
        refine ⟨g, D, xs.drop 3, [], by rw [gr, go, ga]; rfl, rfl, hg7, eD, by rw [List.length_drop]; omega, by rw [List.length_drop]; omega, fun H8 f8 => ⟨true, rfl, ?_⟩⟩
        have hg8 := hg7.keep f8
        have F8 := F7.trans f8
        refine ⟨_, rfl, _, rfl, _, rfl, _, rfl, (8 : Int), rfl, xa, _, rfl, SqL.of (F8.keep xa _ (by simp) hX), fun D2 hD2 => ?_⟩
        rw [show (8 : Int) = ((8 : Nat) : Int) from rfl, cut_from _ _ (by rw [vL_length]; omega), vL_drop]
        have fD2 := Fr.new (xs := []) (o := .lst (vL (xs.drop 8))) hD2
        have eD2 : upd H8 D2 (.lst (vL (xs.drop 8))) D2 = _ := upd_same
        have hg9 := hg8.keep fD2
        have F9 := F8.trans fD2
        generalize upd H8 D2 (.lst (vL (xs.drop 8))) = H9 at fD2 eD2 hg9 F9
        refine ⟨g, D2, xs.drop 8, [], by rw [gr, go, ga]; rfl, rfl, hg9, eD2, by rw [List.length_drop]; omega, by rw [List.length_drop]; omega, fun H10 f10 => ⟨true, rfl, ?_⟩⟩
        have hg10 := hg9.keep f10
        have F10 := F9.trans f10
        have f3to10 : Fr [] H3 H10 := (((((((f4.trans fc).trans f6).trans fD).trans f8).trans fD2).trans f10))
        have hX10 := F10.keep xa _ (by simp) hX
        refine ⟨_, rfl, _, rfl, xa, _, _, _, rfl, rfl, SqL.of hX10, atI_nat (gx 11 (by decide)), _, rfl, n, 1, rfl, rfl, gv xs 11, n + 1, rfl, rfl, by omega, by show 3 ≤ sizeLine; decide, fun e he => ?_⟩
        have fe := Fr.new (xs := []) (o := .lst [V.int 0, vI n, vI (gv xs 11 % (n + 1))]) he
        have ee : upd H10 e (.lst [V.int 0, vI n, vI (gv xs 11 % (n + 1))]) e = _ := upd_same
        have hg11 := hg10.keep fe
        have F11 := F10.trans fe
        have f3to11 := f3to10.trans fe
        generalize upd H10 e (.lst [V.int 0, vI n, vI (gv xs 11 % (n + 1))]) = H11 at fe ee hg11 F11 f3to11
        have mn := Nat.mod_lt (gv xs 11) (show 0 < n + 1 by omega)
        have hix2 : ∃ at_ : Nat, at_ ≤ n ∧ atI [V.int 0, vI n, vI (gv xs 11 % (n + 1))] ((gv xs 12 % 3 : Nat) : Int) = some (vI at_) := by
          have := Nat.mod_lt (gv xs 12) (show 0 < 3 by decide)
          have z : gv xs 12 % 3 = 0 ∨ gv xs 12 % 3 = 1 ∨ gv xs 12 % 3 = 2 := by omega
          rcases z with z | z | z
          · rw [z]; exact ⟨0, by omega, rfl⟩
          · rw [z]; exact ⟨n, by omega, rfl⟩
          · rw [z]; exact ⟨_, by omega, rfl⟩
        obtain ⟨at_, a1, a2⟩ := hix2
        refine ⟨_, rfl, xa, _, _, _, rfl, rfl, SqL.of (F11.keep xa _ (by simp) hX), atI_nat (gx 12 (by decide)), gv xs 12, 3, rfl, rfl, by decide, e, _, _, _, rfl, rfl, SqL.of ee, a2, ?_⟩
        have eU11 := f3to11.keep U _ (by simp) eU
        refine ⟨_, rfl, _, rfl, _, rfl, _, rfl, _, rfl, g, U, tn, [vI at_], by rw [gr, go, ga]; rfl, ⟨at_, rfl, by rw [gn]; exact a1⟩, hg11, eU11, by rw [gn]; exact htn, fun H12 f12 => ⟨true, rfl, ?_⟩⟩
        refine ⟨_, rfl, _, rfl, _, rfl, _, rfl, g, U, tn, [], by rw [gr, go, ga]; rfl, rfl, hg11.keep f12, f12.keep U _ (by simp) eU11, by rw [gn]; exact htn, fun H13 f13 => ?_⟩
        exact q H13 ((F11.trans f12).trans f13)
theorem sc_law : FnScope ["_law_script", "_law_head", "_law_xs", "_law_zs", "_law_row_here", "_law_order_here", "_law_k", "_law_ys"] ["_law_script"] (defScope s_law) := ⟨rfl, rfl, rfl, by decide +kernel, rfl, by decide +kernel, by decide +kernel⟩
theorem body_law (T : Hd K mg) : BodyOk P w K mg base ["_law_script", "_law_head", "_law_xs", "_law_zs", "_law_row_here", "_law_order_here", "_law_k", "_law_ys"] "law" s_law (He.ga K "law") 18 (spLaw K) := by
    intro cdv A outer s H vs Q E hr h
    obtain ⟨sa, ns, rfl, hs, q⟩ := h
    refine ⟨_, (pss_cons (ps_set (i := 1) sc_law.nd rfl (Or.inl rfl) (pe_cd (ok_law_draws T) (hr.mono (by decide)) (pa_cons (pe_cd (ok_law_cell T) (hr.mono (by decide)) (pa_cons (pv 0) (pa_cons pe_int pa_nil))) (pa_cons pe_int pa_nil))))
      (pss_cons (ps_set (i := 2) sc_law.nd rfl (Or.inl rfl) (pe_cd (ok_law_draws T) (hr.mono (by decide)) (pa_cons (pe_cd (ok_law_cell T) (hr.mono (by decide)) (pa_cons (pv 0) (pa_cons pe_int pa_nil))) (pa_cons pe_int pa_nil))))
      (pss_cons (ps_set (i := 3) sc_law.nd rfl (Or.inl rfl) (pe_cd (ok_law_draws T) (hr.mono (by decide)) (pa_cons (pe_cd (ok_law_cell T) (hr.mono (by decide)) (pa_cons (pv 0) (pa_cons pe_int pa_nil))) (pa_cons pe_int pa_nil))))
      (Evl.pss_cut (ps_asg (pe_cd (ok_law_row T) (hr.mono (by decide)) (pa_cons (pv 2) (pa_cons (pe_slice sl_list (pv 1) (po_some pe_int) po_none) (pa_cons (pe_cd (ok_law_many T) (hr.mono (by decide)) (pa_cons (pe_ix ix_list (pv 1) pe_int (fun _ _ => rfl)) pa_nil)) pa_nil)))) (pg_tup rfl (pgs_cons (pg_name (i := 4) sc_law.nd rfl (Or.inl rfl)) (pgs_cons (pg_name (i := 5) sc_law.nd rfl (Or.inl rfl)) pgs_nil))))
      (Evl.pss_cut (ps_if (pt_not (pt_val (pe_cd (ok_law_right T) (hr.mono (by decide)) (pa_cons (pv 4) (pa_cons (pv 5) (pa_cons (pe_slice sl_list (pv 1) (po_some pe_int) po_none) (pa_cons (pv 3) pa_nil)))))))
        (pss_one (ps_ret pe_bl))
        pss_nil)
      (pss_cons (ps_for PassesOwn.never rfl (pi_range2 (by rfl) T.f_range (pa_cons pe_int (pa_cons (pe_callB (call_max2 rfl) (by rfl) T.f_max (by decide +kernel) (pa_cons pe_int (pa_cons (pe_callB (call_min2 rfl) (by rfl) T.f_min (by decide +kernel) (pa_cons pe_int (pa_cons (pe_callB call_len_seq (by rfl) T.f_len (by decide +kernel) (pa_cons (pv 0) pa_nil)) pa_nil))) pa_nil))) pa_nil))) (pg_name (i := 6) sc_law.nd rfl (Or.inl rfl))
        (pss_cons (ps_set (i := 7) sc_law.nd rfl (Or.inl rfl) (pe_cd (ok_law_draws T) (hr.mono (by decide)) (pa_cons (pe_cd (ok_law_cell T) (hr.mono (by decide)) (pa_cons (pv 0) (pa_cons (pv 6) pa_nil))) (pa_cons pe_int pa_nil))))
        (pss_cons (ps_asg (pe_cd (ok_law_row T) (hr.mono (by decide)) (pa_cons (pe_slice sl_list (pv 7) (po_some pe_int) po_none) (pa_cons (pe_slice sl_list (pv 7) (po_some pe_int) po_none) (pa_cons (pe_op op_modNt (pe_ix ix_list (pv 7) pe_int (fun _ _ => rfl)) pe_int) pa_nil)))) (pg_tup rfl (pgs_cons (pg_name (i := 4) sc_law.nd rfl (Or.inl rfl)) (pgs_cons (pg_name (i := 5) sc_law.nd rfl (Or.inl rfl)) pgs_nil))))
        (pss_one (ps_if (pt_not (pt_val (pe_cd (ok_law_right T) (hr.mono (by decide)) (pa_cons (pv 4) (pa_cons (pv 5) (pa_cons (pe_slice sl_list (pv 7) (po_some pe_int) po_none) (pa_cons (pe_slice sl_list (pv 7) (po_some pe_int) po_none) pa_nil)))))))
          (pss_one (ps_ret pe_bl))
          pss_nil)))))
      (pss_one (ps_ret pe_bl)))))))), ?_⟩
    refine ⟨_, rfl, sa, ns, 0, rfl, hs, by decide, fun c0 H1 f1 => ⟨c0, 22, rfl, by decide, fun A H2 as al hA f2 eA ab => ?_⟩⟩
    have F2 := f1.trans f2
    refine ⟨_, rfl, sa, ns, 1, rfl, F2.rdL hs, by decide, fun c1 H3 f3 => ⟨c1, 124, rfl, by decide, fun B H4 bs bl hB f4 eB bb => ?_⟩⟩
    have F4 := F2.trans (f3.trans f4)
    refine ⟨_, rfl, sa, ns, 2, rfl, F4.rdL hs, by decide, fun c2 H5 f5 => ⟨c2, 60, rfl, by decide, fun C H6 cs cl hC f6 eC cb => ?_⟩⟩
    have F6 := F4.trans (f5.trans f6)
    have eB6 := (f5.trans f6).keep B _ (by simp) eB
    have eA6 := ((f3.trans f4).trans (f5.trans f6)).keep A _ (by simp) eA
    have ga1 : (vL as)[1]? = some (vI (gv as 1)) := vL_get (by omega)
    refine ⟨fun σ' H' => ∃ (r o : Addr) (n : Nat) (rk : Nat → Nat) (rows : List Thing) (ord : Order), σ' = [some (.ref sa), some (.ref A), some (.ref B), some (.ref C), some (.ref r), some (.ref o), none, none] ∧ Fr [] H6 H' ∧ RowAt H' r rows ∧ OrdAt H' o ord ∧ OrdOk ord ∧ (∀ t ∈ rows, ThingOk t) ∧ CmpOk n rows ord rk, ?_, ?_⟩
    · refine ⟨_, rfl, _, rfl, (2 : Int), rfl, A, _, rfl, SqL.of eA6, fun E1 hE1 => ?_⟩
      rw [show (2 : Int) = ((2 : Nat) : Int) from rfl, cut_from _ _ (by rw [vL_length]; omega), vL_drop]
      have fE := Fr.new (xs := []) (o := .lst (vL (as.drop 2))) hE1
      have eE : upd H6 E1 (.lst (vL (as.drop 2))) E1 = _ := upd_same
      generalize upd H6 E1 (.lst (vL (as.drop 2))) = H7 at fE eE
      refine ⟨_, rfl, A, _, _, _, rfl, rfl, SqL.of (fE.keep A _ (by simp) eA6), atI_nat ga1, gv as 1, rfl, fun n H8 hn f8 => ?_⟩
      have F8 := fE.trans f8
      refine ⟨B, E1, bs, as.drop 2, n, rfl, F8.keep B _ (by simp) eB6, f8.keep E1 _ (by simp) eE, by omega, by omega, by rw [List.length_drop]; omega, hn, bb, fun t r o rows ord rk H9 et hr ho hord hth hc f9 => ?_⟩
      exact ⟨t, _, rfl, SqT.of et, rfl, _, _, rfl, _, _, rfl, rfl, r, o, n, rk, rows, ord, rfl, F8.trans f9, hr, ho, hord, hth, hc⟩
    · rintro σ' H7 ⟨r, o, n, rk, rows, ord, rfl, f7, hr, ho, hord, hth, hc⟩
      have hn60 := hc.n60
      have F7 := F6.trans f7
      refine ⟨fun σ' H' => σ' = [some (.ref sa), some (.ref A), some (.ref B), some (.ref C), some (.ref r), some (.ref o), none, none] ∧ Fr [] H7 H', ?_, ?_⟩
      · refine ⟨_, rfl, _, rfl, _, rfl, (9 : Int), rfl, A, _, rfl, SqL.of (f7.keep A _ (by simp) eA6), fun E1 hE1 => ?_⟩
        rw [show (9 : Int) = ((9 : Nat) : Int) from rfl, cut_from _ _ (by rw [vL_length]; omega), vL_drop]
        have fE := Fr.new (xs := []) (o := .lst (vL (as.drop 9))) hE1
        have eE : upd H7 E1 (.lst (vL (as.drop 9))) E1 = _ := upd_same
        generalize upd H7 E1 (.lst (vL (as.drop 9))) = H8 at fE eE
        refine ⟨_, rfl, r, o, E1, C, n, rk, rows, ord, as.drop 9, cs, rfl, hr.keep fE, ho.keep fE, hord, hth, hc, eE, by rw [List.length_drop]; omega, by rw [List.length_drop]; omega, fE.keep C _ (by simp) (f7.keep C _ (by simp) eC), by omega, fun H9 f9 => ⟨true, rfl, ?_⟩⟩
        exact ⟨rfl, fE.trans f9⟩
      · rintro σ' H8 ⟨rfl, f8⟩
        have F8 := F7.trans f8
        refine ⟨_, rfl, sa, _, rfl, .inl (F8.rdL hs), 16, ((ns.map V.int).length : Int), rfl, 5, _, rfl, 3, _, rfl, ?_⟩
        have hJ : ∀ x : Int, x = (if (if ((ns.map V.int).length : Int) < 16 then ((ns.map V.int).length : Int) else 16) > 5 then (if ((ns.map V.int).length : Int) < 16 then ((ns.map V.int).length : Int) else 16) else 5) → 5 ≤ x ∧ x ≤ 16 := fun x hx => by
          subst hx
          split <;> split at * <;> omega
        have hJ2 := hJ _ rfl
        refine ⟨⟨by omega, by omega, by omega, by omega⟩, ?_⟩
        refine for_it (walk_rangeN (lo := 3)) (fun i σ H' => Fr [] H8 H' ∧ ∃ v4 v5 v6 v7, σ = [some (.ref sa), some (.ref A), some (.ref B), some (.ref C), v4, v5, v6, v7]) ⟨Fr.refl _ _, _, _, _, _, rfl⟩ (fun _ _ _ _ _ => trivial) ?_ ?_
        · rintro i v σ H9 H10 hi ⟨f9, v4, v5, v6, v7, rfl⟩ ⟨rfl, rfl⟩
          have hi13 : i < 13 := by omega
          have F9 := F8.trans f9
          refine ⟨_, rfl, _, rfl, sa, ns, 3 + i, rfl, F9.rdL hs, by omega, fun d H11 f11 => ⟨d, 48, rfl, by decide, fun Y H12 ys yl hY f12 eY yb => ?_⟩⟩
          have gy1 : (vL ys)[1]? = some (vI (gv ys 1)) := vL_get (by omega)
          have F12 := f9.trans (f11.trans f12)
          refine ⟨_, rfl, (22 : Int), rfl, Y, _, rfl, SqL.of eY, fun E1 hE1 => ?_⟩
          rw [show (22 : Int) = ((22 : Nat) : Int) from rfl, cut_from _ _ (by rw [vL_length]; omega), vL_drop]
          have fE := Fr.new (xs := []) (o := .lst (vL (ys.drop 22))) hE1
          have eE : upd H12 E1 (.lst (vL (ys.drop 22))) E1 = _ := upd_same
          have eY1 := fE.keep Y _ (by simp) eY
          generalize upd H12 E1 (.lst (vL (ys.drop 22))) = H13 at fE eE eY1
          refine ⟨_, rfl, (2 : Int), rfl, Y, _, rfl, SqL.of eY1, fun E2 hE2 => ?_⟩
          rw [show (2 : Int) = ((2 : Nat) : Int) from rfl, cut_from _ _ (by rw [vL_length]; omega), vL_drop]
          have fE2 := Fr.new (xs := []) (o := .lst (vL (ys.drop 2))) hE2
          have eE2 : upd H13 E2 (.lst (vL (ys.drop 2))) E2 = _ := upd_same
          have eY2 := fE2.keep Y _ (by simp) eY1
          have eE' := fE2.keep E1 _ (by simp) eE
          generalize upd H13 E2 (.lst (vL (ys.drop 2))) = H14 at fE2 eE2 eY2 eE'
          have m8 := Nat.mod_lt (gv ys 1) (show 0 < 8 by decide)
          refine ⟨_, rfl, Y, _, _, _, rfl, rfl, SqL.of eY2, atI_nat gy1, gv ys 1, 8, rfl, rfl, by decide, ?_⟩
          refine ⟨E1, E2, ys.drop 22, ys.drop 2, gv ys 1 % 8, rfl, eE', eE2, by rw [List.length_drop]; omega, by rw [List.length_drop]; omega, by rw [List.length_drop]; omega, by omega, fun z hz => yb z (List.mem_of_mem_drop hz), fun t r2 o2 rows2 ord2 rk2 H15 et hr2 ho2 hord2 hth2 hc2 f15 => ?_⟩
          refine ⟨t, _, rfl, SqT.of et, rfl, _, _, rfl, _, _, rfl, rfl, ?_⟩
          have eY3 := f15.keep Y _ (by simp) eY2
          refine ⟨_, rfl, _, rfl, _, rfl, (9 : Int), rfl, Y, _, rfl, SqL.of eY3, fun E3 hE3 => ?_⟩
          rw [show (9 : Int) = ((9 : Nat) : Int) from rfl, cut_from _ _ (by rw [vL_length]; omega), vL_drop]
          have fE3 := Fr.new (xs := []) (o := .lst (vL (ys.drop 9))) hE3
          have eE3 : upd H15 E3 (.lst (vL (ys.drop 9))) E3 = _ := upd_same
          have eY4 := fE3.keep Y _ (by simp) eY3
          generalize upd H15 E3 (.lst (vL (ys.drop 9))) = H16 at fE3 eE3 eY4
          refine ⟨_, rfl, (41 : Int), rfl, Y, _, rfl, SqL.of eY4, fun E4 hE4 => ?_⟩
          rw [show (41 : Int) = ((41 : Nat) : Int) from rfl, cut_from _ _ (by rw [vL_length]; omega), vL_drop]
          have fE4 := Fr.new (xs := []) (o := .lst (vL (ys.drop 41))) hE4
          have eE4 : upd H16 E4 (.lst (vL (ys.drop 41))) E4 = _ := upd_same
          have eE3' := fE4.keep E3 _ (by simp) eE3
          generalize upd H16 E4 (.lst (vL (ys.drop 41))) = H17 at fE4 eE4 eE3'
          refine ⟨r2, o2, E3, E4, _, rk2, rows2, ord2, ys.drop 9, ys.drop 41, rfl, (hr2.keep fE3).keep fE4, (ho2.keep fE3).keep fE4, hord2, hth2, hc2, eE3', by rw [List.length_drop]; omega, by rw [List.length_drop]; omega, eE4, by rw [List.length_drop]; omega, fun H18 f18 => ⟨true, rfl, ?_⟩⟩
          exact ⟨F12.trans (fE.trans (fE2.trans (f15.trans (fE3.trans (fE4.trans f18))))), _, _, _, _, rfl⟩
        · rintro σ H9 ⟨f9, _⟩
          exact q H9
end
end NR

set_option maxRecDepth 100000
set_option maxHeartbeats 4000000
/-! The end. -/
namespace NR
open PySem PySem.Spec PyProof.Rows L2 NM
theorem facts {P : Program} {w : World} {K : PySem.W.Frag} {h : Heap} {mg : Str → Option Value} {f : Addr} (X : K.In h) (G : h.Ns mainGlobals mg) (hfa : mg ("law" : Str) = some (.ref f)) (c : SaysX K) :
    ∃ fd : FuncData, (∀ (s : Shared) (v : Value), BindsTo s fd ⟨[v], []⟩ [("_law_script", v)]) ∧ ∀ base : Heap, K.In base → base.Ns mainGlobals mg → FnOk P w K mg base CX0 19 f fd ["_law_script"] (spLaw K) := by
  have T : Hd K mg := ⟨c, h, X, G⟩
  obtain ⟨fd, F⟩ := T.defD 83 rfl
  have F : FunD K "law" "law" (defArgs s_law) (defBody s_law) (defScope s_law) [] [] (He.ga K "law") fd := F
  have e : f = He.ga K "law" := by
    have := hfa.symm.trans (T.glo 59 rfl)
    cases this
    rfl
  subst e
  have b := FunD.bindsA (ps := ["_law_script"]) F fun _ _ _ _ _ _ us hl => match us, hl with | [_], _ => rfl
  exact ⟨fd, fun s v => b s [v] rfl, fun base _ _ => fnOk_of F sc_law (fun vs H Q E h => by obtain ⟨sa, ns, rfl, _⟩ := h; rfl) (body_law T)⟩
end NR
open PySem PySem.W PySem.Calls PyProof.Rows
theorem PySem.Challenge.cw_nearmerge_k55_whole_every_way_one_line_holds : PySem.Challenge.rw_nearmerge_k55_whole_every_way_one_line.Holds := by
  w_on; o_law
  refine HandSHeadRun.head_any (r := OpenLaw.row PySem.Challenge.rw_nearmerge_k55_whole_every_way_one_line) (q := view (OpenLaw.row PySem.Challenge.rw_nearmerge_k55_whole_every_way_one_line).prog [100]) (H := NR.hk) (ob := NR.ob) (M := 8200) (loose := NR.loose) (d := HandSHeadRun.topDef (OpenLaw.row PySem.Challenge.rw_nearmerge_k55_whole_every_way_one_line).prog 100) (kwd := []) NR.ob_eq
    (by kernel_rfl) (fun s => by kernel_rfl) NR.run (by kernel_rfl) (by kernel_rfl) (by kernel_rfl) (by rfl) (by first | assumption | decide +kernel) (by decide +kernel) ⟨rfl, rfl, rfl, rfl, rfl, by decide +kernel⟩ ?hw ?hc
  case hw => w_witness2
  case hc =>
    refine L2.walk_ofE (l := PySem.Challenge.rw_nearmerge_k55_whole_every_way_one_line) (n := 63) (k := 19) (x := "_law_script") (CX := L2.CX0) rfl (by decide) (by kernel_rfl) ⟨rfl, by decide, by decide⟩ ?F (fun _ _ _ _ z => z)
    intro w mg fa h Y G hmg0
    obtain ⟨K, KX, c⟩ := Y
    have hmg : mg ("law" : PySem.Str) = some (.ref fa) := by
      have e : (HandSHeadRun.topDef (OpenLaw.row PySem.Challenge.rw_nearmerge_k55_whole_every_way_one_line).prog 100).name = ("law" : PySem.Str) := by kernel_rfl
      rw [← e]
      exact hmg0
    obtain ⟨fd, hb, hF⟩ := NR.facts (P := (PySem.Challenge.rw_nearmerge_k55_whole_every_way_one_line).prog) (w := w) KX G hmg c
    exact ⟨K, fd, NR.spLaw K, KX, hb, fun H a ns hl _ hS => ⟨a, ns, rfl, hS, fun _ => rfl⟩, hF⟩
